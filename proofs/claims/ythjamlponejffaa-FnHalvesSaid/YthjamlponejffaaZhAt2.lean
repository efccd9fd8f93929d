/-
  Attraction by ranks: the program's ranks, and what they mean.
-/
import Derived.Test.YthjamlponejffaaZhE8
import Derived.Test.YthjamlponejffaaZhCe
import Derived.Test.YthjamlponejffaaZhKf
import Derived.Test.YthjamlponejffaaZhG3
namespace Go.Proofs.Ythjamlponejffaa
set_option linter.unusedVariables false
set_option linter.unusedSimpArgs false
open Go.RowKit
attribute [local irreducible] ap b7 Aw Le
theorem ee (k : Nat) (P : Nat → Prop) : tf (∃ j,j < k + 1 ∧ P j) = (tf (∃ j,j < k ∧ P j) || tf (P k)):=by
 by_cases h : ∃ j,j < k ∧ P j
 · rw [bc h,Bool.true_or,bc (let ⟨j,h1,h2⟩:=h;⟨j,by omega,h2⟩)]
 · rw [aH h,Bool.false_or]
   exact cM ⟨fun ⟨j,h1,h2⟩=>by
    rcases Nat.lt_or_ge j k with h'|h'
    · exact absurd ⟨j,h',h2⟩ h
    · rwa [show j = k by omega] at h2,fun h'=>⟨k,by omega,h'⟩⟩
theorem gM (k : Nat) (P : Nat → Prop) : tf (∀ j,j < k + 1 → P j) = (tf (∀ j,j < k → P j) && tf (P k)):=by
 by_cases h : ∀ j,j < k → P j
 · rw [bc h,Bool.true_and]
   exact cM ⟨fun h'=>h' k (by omega),fun h'=>d5 h h'⟩
 · rw [aH h,Bool.false_and,aH fun h'=>h fun j hj=>h' j (by omega)]
def uq (a : Ar) (who : Int) (ws : List Bool) (rs : List Int) (v : Nat) : Prop :=
 (gi a.own v = who ∧ ∃ i,i < (gr a.nxt v).length ∧ gb ws (gi (gr a.nxt v) i).toNat = true ∧ 0 ≤ gi rs (gi (gr a.nxt v) i).toNat) ∨
 (¬ gi a.own v = who ∧ (∃ i,i < (gr a.nxt v).length ∧ gb ws (gi (gr a.nxt v) i).toNat = true) ∧ ∀ i,i < (gr a.nxt v).length → gb ws (gi (gr a.nxt v) i).toNat = true → 0 ≤ gi rs (gi (gr a.nxt v) i).toNat)
theorem xX {a : Ar} (ha : ArOk a) {v i : Nat} (hv : v < a.own.length) (hi : i < (gr a.nxt v).length) : 0 ≤ gi (gr a.nxt v) i ∧ gi (gr a.nxt v) i < a.own.length:=(ha.vert v hv).2.2.2.2.bnd i hi
set_option maxHeartbeats 1000000 in
theorem ou (a : Ar) (ha : ArOk a) (who : Int) (ws : List Bool) (hws : ws.length = a.own.length) (rs : List Int) (hrs : rs.length = a.own.length) (v : Nat) (hv : v < a.own.length) : ap Try.prog 130 [arA a,.c (.int .i64 who),.c (.B ws),.c (.I rs),.c (.int .i64 v)] [] (fun _=>.c (.bool (tf (uq a who ws rs v)))):=by
 have hle:=ha.le
 have hnl:=ha.len
 have hvt:=(ha.vert v hv).2.2
 obtain ⟨hv1,hv2,_⟩:=hvt
 (refine bf aI Try.func130 rfl rfl (by kernel_rfl) fun hp0 ν hX hN=>?_;simp only [bW,Nat.reduceAdd])
 (repeat' (first|(with_reducible first|(apply hK;clear hK K)|refine stZ ?_|refine aT rfl ?_|((first|apply ae|apply af);clear ae X af Y))|(with_reducible refine aW ?_;first|refine aU rfl ?_|refine aV rfl ?_)|(with_reducible refine bv ?_;first|refine bd rfl rfl rfl rfl ?_|refine bt rfl rfl rfl ?_|refine bI rfl rfl rfl rfl ?_)|((first|(with_reducible first|((first|refine aZ ?_|refine a8 ?_);intro K hK)|(refine aE ?_;intro X Y ae af)|refine aF ?_)|(with_reducible refine bv ?_;refine be rfl rfl fun X Y ae af=>?_));simp (disch:=first|decide|omega|(simp only [List.length_cons,List.length_nil];omega)) only [go_sem,↓aj hN,ak hN,reduceIte,reduceCtorEq,Nat.reduceAdd,Nat.reduceLT,Nat.reduceLeDiff,Nat.reduceEqDiff,Nat.reduceSub])|(with_reducible refine And.intro (fun h=>?_) (fun h=>?_) <;> try (exfalso;omega))|(with_reducible refine aY aI hN ?_)|(with_reducible refine And.intro ?_ ?_)|(refine ah ?_;omega)|(exact aX hN (by decide))))
 (refine bT (fun (k : Nat)=>(tmL [(22,.c (.int .i64 k)),(21,.c (.int .i64 (gr a.nxt v).length)),(20,.c (.I (gr a.nxt v))),(11,.c (.bool (tf (∃ j,j < k ∧ gb ws (gi (gr a.nxt v) j).toNat = true ∧ 0 ≤ gi rs (gi (gr a.nxt v) j).toNat)))),(12,.c (.bool (tf (∀ j,j < k → gb ws (gi (gr a.nxt v) j).toNat = true → 0 ≤ gi rs (gi (gr a.nxt v) j).toNat)))),(13,.c (.bool (tf (∃ j,j < k ∧ gb ws (gi (gr a.nxt v) j).toNat = true)))),(2,.c (.B ws)),(3,.c (.I rs)),(1,.c (.int .i64 who)),(4,.c (.int .i64 v)),(5,.ad (ν 0) 0)],hpL hp0 ν [.box [.c (.I a.own),.c (.R a.nxt)]])) (fun (k : Nat)=>k ≤ (gr a.nxt v).length) (fun (k : Nat)=>(gr a.nxt v).length - k) ⟨0,?_,bB hX hN [] ?_ ?_⟩ ?_;(repeat' (first|(with_reducible first|exact clZ|refine bw ?_ ?_|refine bz ?_ ?_|rfl|refine suZ ?_)|refine bA rfl ?_ ?_|exact aP hN _ rfl rfl rfl|exact aQ hN _ rfl rfl rfl|exact ax hN _ rfl rfl rfl (Or.inr rfl)|(refine aR hN _ rfl rfl (by first|exact Or.inr rfl|exact Or.inl rfl) ?_;first|exact aC _|exact aD _)|refine ay hN rfl ?_|refine az hN rfl rfl ?_|exact au hN _ rfl rfl|exact aA hN rfl rfl rfl rfl|(with_reducible first|refine stZ ?_|refine aO ?_)));(try (any_goals (first|(with_reducible rfl)|(refine ah ?_;omega)))))
 · exact (aH fun ⟨j,h,_⟩=>absurd h (Nat.not_lt_zero _)).symm
 · exact (bc fun j h=>absurd h (Nat.not_lt_zero _)).symm
 · exact (aH fun ⟨j,h,_⟩=>absurd h (Nat.not_lt_zero _)).symm
 intro k hk
 have hn:=fun h=>xX ha hv (i:=k) h
 have e1:=ee k fun j=>gb ws (gi (gr a.nxt v) j).toNat = true ∧ 0 ≤ gi rs (gi (gr a.nxt v) j).toNat
 have e2:=gM k fun j=>gb ws (gi (gr a.nxt v) j).toNat = true → 0 ≤ gi rs (gi (gr a.nxt v) j).toNat
 have e3:=ee k fun j=>gb ws (gi (gr a.nxt v) j).toNat = true
 generalize hSo : tf (∃ j,j < k ∧ gb ws (gi (gr a.nxt v) j).toNat = true ∧ 0 ≤ gi rs (gi (gr a.nxt v) j).toNat) = so at *
 generalize hAl : tf (∀ j,j < k → gb ws (gi (gr a.nxt v) j).toNat = true → 0 ≤ gi rs (gi (gr a.nxt v) j).toNat) = al at *
 generalize hIn : tf (∃ j,j < k ∧ gb ws (gi (gr a.nxt v) j).toNat = true) = ins at *
 clear e1 e2 e3
 (repeat' (first|(with_reducible first|(apply hK;clear hK K)|refine stZ ?_|refine aT rfl ?_|((first|apply ae|apply af);clear ae X af Y))|(with_reducible refine aW ?_;first|refine aU rfl ?_|refine aV rfl ?_)|(with_reducible refine bv ?_;first|refine bd rfl rfl rfl rfl ?_|refine bt rfl rfl rfl ?_|refine bI rfl rfl rfl rfl ?_)|((first|(with_reducible first|((first|refine aZ ?_|refine a8 ?_);intro K hK)|(refine aE ?_;intro X Y ae af)|refine aF ?_)|(with_reducible refine bv ?_;refine be rfl rfl fun X Y ae af=>?_));simp (disch:=first|decide|omega|(simp only [List.length_cons,List.length_nil];omega)) only [go_sem,↓aj hN,ak hN,reduceIte,reduceCtorEq,Nat.reduceAdd,Nat.reduceLT,Nat.reduceLeDiff,Nat.reduceEqDiff,Nat.reduceSub])|(with_reducible refine And.intro (fun h=>?_) (fun h=>?_) <;> try (exfalso;omega))|(with_reducible refine aY aI hN ?_)|(with_reducible refine And.intro ?_ ?_)|(refine ah ?_;omega)|(exact aX hN (by decide))))
 · (refine ⟨k + 1,⟨?_,?_⟩,bB hX hN [] ?_ ?_⟩;(try any_goals dsimp only);(repeat' (first|(with_reducible first|exact clZ|refine bw ?_ ?_|refine bz ?_ ?_|rfl|refine suZ ?_)|refine bA rfl ?_ ?_|exact aP hN _ rfl rfl rfl|exact aQ hN _ rfl rfl rfl|exact ax hN _ rfl rfl rfl (Or.inr rfl)|(refine aR hN _ rfl rfl (by first|exact Or.inr rfl|exact Or.inl rfl) ?_;first|exact aC _|exact aD _)|refine ay hN rfl ?_|refine az hN rfl rfl ?_|exact au hN _ rfl rfl|exact aA hN rfl rfl rfl rfl|(with_reducible first|refine stZ ?_|refine aO ?_)));(try (any_goals (first|(with_reducible rfl)|(refine ah ?_;omega)))))
   all_goals first|rw [ee,hSo]|rw [gM,hAl]|rw [ee,hIn]
   all_goals by_cases hR : 0 ≤ gi rs (gi (gr a.nxt v) k).toNat
   all_goals simp [tf, *]
 · (refine ⟨k + 1,⟨?_,?_⟩,bB hX hN [] ?_ ?_⟩;(try any_goals dsimp only);(repeat' (first|(with_reducible first|exact clZ|refine bw ?_ ?_|refine bz ?_ ?_|rfl|refine suZ ?_)|refine bA rfl ?_ ?_|exact aP hN _ rfl rfl rfl|exact aQ hN _ rfl rfl rfl|exact ax hN _ rfl rfl rfl (Or.inr rfl)|(refine aR hN _ rfl rfl (by first|exact Or.inr rfl|exact Or.inl rfl) ?_;first|exact aC _|exact aD _)|refine ay hN rfl ?_|refine az hN rfl rfl ?_|exact au hN _ rfl rfl|exact aA hN rfl rfl rfl rfl|(with_reducible first|refine stZ ?_|refine aO ?_)));(try (any_goals (first|(with_reducible rfl)|(refine ah ?_;omega)))))
   all_goals first|rw [ee,hSo]|rw [gM,hAl]|rw [ee,hIn]
   all_goals by_cases hR : 0 ≤ gi rs (gi (gr a.nxt v) k).toNat
   all_goals simp [tf, *]
 · (refine ⟨k + 1,⟨?_,?_⟩,bB hX hN [] ?_ ?_⟩;(try any_goals dsimp only);(repeat' (first|(with_reducible first|exact clZ|refine bw ?_ ?_|refine bz ?_ ?_|rfl|refine suZ ?_)|refine bA rfl ?_ ?_|exact aP hN _ rfl rfl rfl|exact aQ hN _ rfl rfl rfl|exact ax hN _ rfl rfl rfl (Or.inr rfl)|(refine aR hN _ rfl rfl (by first|exact Or.inr rfl|exact Or.inl rfl) ?_;first|exact aC _|exact aD _)|refine ay hN rfl ?_|refine az hN rfl rfl ?_|exact au hN _ rfl rfl|exact aA hN rfl rfl rfl rfl|(with_reducible first|refine stZ ?_|refine aO ?_)));(try (any_goals (first|(with_reducible rfl)|(refine ah ?_;omega)))))
   all_goals first|rw [ee,hSo]|rw [gM,hAl]|rw [ee,hIn]
   all_goals by_cases hR : 0 ≤ gi rs (gi (gr a.nxt v) k).toNat
   all_goals simp [tf, *]
 · (refine ⟨k + 1,⟨?_,?_⟩,bB hX hN [] ?_ ?_⟩;(try any_goals dsimp only);(repeat' (first|(with_reducible first|exact clZ|refine bw ?_ ?_|refine bz ?_ ?_|rfl|refine suZ ?_)|refine bA rfl ?_ ?_|exact aP hN _ rfl rfl rfl|exact aQ hN _ rfl rfl rfl|exact ax hN _ rfl rfl rfl (Or.inr rfl)|(refine aR hN _ rfl rfl (by first|exact Or.inr rfl|exact Or.inl rfl) ?_;first|exact aC _|exact aD _)|refine ay hN rfl ?_|refine az hN rfl rfl ?_|exact au hN _ rfl rfl|exact aA hN rfl rfl rfl rfl|(with_reducible first|refine stZ ?_|refine aO ?_)));(try (any_goals (first|(with_reducible rfl)|(refine ah ?_;omega)))))
   all_goals first|rw [ee,hSo]|rw [gM,hAl]|rw [ee,hIn]
   all_goals by_cases hR : 0 ≤ gi rs (gi (gr a.nxt v) k).toNat
   all_goals simp [tf, *]
 · (refine ⟨k + 1,⟨?_,?_⟩,bB hX hN [] ?_ ?_⟩;(try any_goals dsimp only);(repeat' (first|(with_reducible first|exact clZ|refine bw ?_ ?_|refine bz ?_ ?_|rfl|refine suZ ?_)|refine bA rfl ?_ ?_|exact aP hN _ rfl rfl rfl|exact aQ hN _ rfl rfl rfl|exact ax hN _ rfl rfl rfl (Or.inr rfl)|(refine aR hN _ rfl rfl (by first|exact Or.inr rfl|exact Or.inl rfl) ?_;first|exact aC _|exact aD _)|refine ay hN rfl ?_|refine az hN rfl rfl ?_|exact au hN _ rfl rfl|exact aA hN rfl rfl rfl rfl|(with_reducible first|refine stZ ?_|refine aO ?_)));(try (any_goals (first|(with_reducible rfl)|(refine ah ?_;omega)))))
   all_goals first|rw [ee,hSo]|rw [gM,hAl]|rw [ee,hIn]
   all_goals by_cases hR : 0 ≤ gi rs (gi (gr a.nxt v) k).toNat
   all_goals simp [tf, *]
 · (refine bX (.inr rfl) (by first|rfl|(simp (disch:=first|decide|omega|(simp only [List.length_cons,List.length_nil];omega)) only [bG,bK,bN,bO,go_sem,beq_self_eq_true,↓ao,↓aj hN,ak hN,reduceIte,reduceCtorEq,Nat.reduceAdd,Nat.reduceLT,Nat.reduceLeDiff,Nat.reduceEqDiff,Nat.reduceSub];rfl)) ?_)
   rw [show k = (gr a.nxt v).length by omega] at hSo
   rw [← hSo]
   exact congrArg C.bool (cM ⟨fun h=>.inl ⟨by assumption,h⟩,fun h=>h.elim (fun h=>h.2) fun h=>absurd (by assumption) h.1⟩)
 · have hne : ¬ gi a.own v = who:=by simpa using (by assumption : (gi a.own v == who) = false)
   have h1 : ins = true:=by assumption
   rw [← hIn,show k = (gr a.nxt v).length by omega] at h1
   (refine bX (.inr rfl) (by first|rfl|(simp (disch:=first|decide|omega|(simp only [List.length_cons,List.length_nil];omega)) only [bG,bK,bN,bO,go_sem,beq_self_eq_true,↓ao,↓aj hN,ak hN,reduceIte,reduceCtorEq,Nat.reduceAdd,Nat.reduceLT,Nat.reduceLeDiff,Nat.reduceEqDiff,Nat.reduceSub];rfl)) ?_)
   rw [← hAl,show k = (gr a.nxt v).length by omega]
   exact congrArg C.bool (cM ⟨fun h=>.inr ⟨hne,jF.1 h1,h⟩,fun h=>h.elim (fun h=>absurd h.1 hne) fun h=>h.2.2⟩)
 · have hne : ¬ gi a.own v = who:=by simpa using (by assumption : (gi a.own v == who) = false)
   have h1 : ins = false:=by assumption
   rw [← hIn,show k = (gr a.nxt v).length by omega] at h1
   (refine bX (.inr rfl) (by first|rfl|(simp (disch:=first|decide|omega|(simp only [List.length_cons,List.length_nil];omega)) only [bG,bK,bN,bO,go_sem,beq_self_eq_true,↓ao,↓aj hN,ak hN,reduceIte,reduceCtorEq,Nat.reduceAdd,Nat.reduceLT,Nat.reduceLeDiff,Nat.reduceEqDiff,Nat.reduceSub];rfl)) ?_)
   exact congrArg C.bool (aH fun h=>h.elim (fun h=>hne h.1) fun h=>absurd (bc h.2.1) (by rw [h1];decide)).symm
end Go.Proofs.Ythjamlponejffaa
namespace Go.Proofs.Ythjamlponejffaa
set_option linter.unusedVariables false
set_option linter.unusedSimpArgs false
open Go.RowKit
theorem k9 {p : Int → Prop} {xs : List Int} {x : Int} : ∀ k,k ≤ xs.length → (x ∈ dB p xs k ↔ ∃ j,j < k ∧ gi xs j = x ∧ p x)
 | 0, _ => ⟨fun h => (by cases h), fun ⟨j, h, _⟩ => absurd h (Nat.not_lt_zero _)⟩
 | k + 1, hk => by
   have ih:=k9 (p:=p) (xs:=xs) (x:=x) k (by omega)
   by_cases h : p (gi xs k)
   · rw [c9 h,List.mem_append,ih,List.mem_singleton]
     constructor
     · rintro (⟨j,h1,h2⟩|rfl)
       · exact ⟨j,by omega,h2⟩
       · exact ⟨k,by omega,rfl,h⟩
     · rintro ⟨j,h1,h2,h3⟩
       rcases Nat.lt_or_ge j k with h'|h'
       · exact .inl ⟨j,h',h2,h3⟩
       · rw [show j = k by omega] at h2;exact .inr h2.symm
   · rw [dl h,ih]
     constructor
     · rintro ⟨j,h1,h2⟩;exact ⟨j,by omega,h2⟩
     · rintro ⟨j,h1,h2,h3⟩
       rcases Nat.lt_or_ge j k with h'|h'
       · exact ⟨j,h',h2,h3⟩
       · rw [show j = k by omega] at h2;exact absurd (h2 ▸ h3) h
def pgA (g : Pa) : PG.Gm:=cO (c8 g) g.prio.length
theorem jf {g : Pa} (v u : Nat) : (pgA g).E v u ↔ v < g.prio.length ∧ u < g.prio.length ∧ ∃ t,t < (gr g.ar.nxt v).length ∧ gi (gr g.ar.nxt v) t = (u : Int):=by
 show v < _ ∧ u < _ ∧ edg (c8 g) v u = true ∧ _ ↔ _
 constructor
 · rintro ⟨a,b,_,c⟩;exact ⟨a,b,c⟩
 · rintro ⟨a,b,c⟩
   refine ⟨a,b,?_,c⟩
   have : gi (c8 g).pick v = -1:=cH _ (by omega)
   simp [edg,this]
theorem ur {g : Pa} (hg : PaOk g) {v : Nat} (hv : v < g.prio.length) : (pgA g).own v = gi g.ar.own v:=oq (eZ hg) hv
noncomputable def rkV (P : PG.Gm) (who : Int) (S T : Nat → Prop) : Nat → Nat → Int
 | 0, v => @ite _ (S v ∧ T v) (Classical.propDecidable _) 0 (-1)
 | k + 1, v => @ite _ (0 ≤ rkV P who S T k v) (Classical.propDecidable _) (rkV P who S T k v) (@ite _ (PG.AttrN P who S T (k + 1) v) (Classical.propDecidable _) ((k : Int) + 1) (-1))
section
variable {P : PG.Gm} {who : Int} {S T : Nat → Prop}
theorem fN : ∀ k v,0 ≤ rkV P who S T k v ↔ PG.AttrN P who S T k v
 | 0, v => by
   unfold rkV
   by_cases h : S v ∧ T v
   · rw [if_pos h];exact ⟨fun _=>h,fun _=>Int.le_refl _⟩
   · rw [if_neg h];exact ⟨fun h'=>absurd h' (by decide),fun h'=>absurd h' h⟩
 | k + 1, v => by
   have ih:=fN k v
   unfold rkV
   by_cases h : 0 ≤ rkV P who S T k v
   · rw [if_pos h];exact ⟨fun _=>PG.attrN_succ (ih.1 h),fun _=>h⟩
   · rw [if_neg h]
     by_cases h' : PG.AttrN P who S T (k + 1) v
     · rw [if_pos h'];exact ⟨fun _=>h',fun _=>by omega⟩
     · rw [if_neg h'];exact ⟨fun h'=>absurd h' (by decide),fun h2=>absurd h2 h'⟩
theorem we (k v : Nat) : -1 ≤ rkV P who S T k v:=by
 induction k with
 | zero => unfold rkV; split <;> decide
 | succ k ih =>
   unfold rkV
   split
   · exact ih
   · split <;> omega
theorem pp {k v : Nat} (h : 0 ≤ rkV P who S T k v) : rkV P who S T (k + 1) v = rkV P who S T k v:=if_pos h
theorem ut {k v : Nat} (h : ¬ 0 ≤ rkV P who S T k v) (h' : PG.AttrN P who S T (k + 1) v) : rkV P who S T (k + 1) v = (k : Int) + 1:=(if_neg h).trans (if_pos h')
theorem mV {k v : Nat} (h : ¬ 0 ≤ rkV P who S T k v) (h' : ¬ PG.AttrN P who S T (k + 1) v) : rkV P who S T (k + 1) v = rkV P who S T k v:=by
 have:=we (P:=P) (who:=who) (S:=S) (T:=T) k v
 rw [(if_neg h).trans (if_neg h') |> fun e=>(e : rkV P who S T (k + 1) v = -1)]
 omega
theorem j6 {k : Nat} (h : ∀ v,PG.AttrN P who S T (k + 1) v → PG.AttrN P who S T k v) : ∀ m,k ≤ m → ∀ v,PG.AttrN P who S T m v → PG.AttrN P who S T k v:=by
 intro m hm
 induction m with
 | zero => intro v hv; rw [show k = 0 by omega]; exact hv
 | succ m ih =>
   intro v hv
   rcases Nat.lt_or_ge k (m + 1) with hk|hk
   · have ih:=ih (by omega)
     rcases hv with hv|⟨h1,h2,u,h3,h4⟩|⟨h1,h2,h3,h4⟩
     · exact ih v hv
     · exact h v (.inr (.inl ⟨h1,h2,u,h3,ih u h4⟩))
     · exact h v (.inr (.inr ⟨h1,h2,h3,fun u a b=>ih u (h4 u a b)⟩))
   · rw [show k = m + 1 by omega];exact hv
theorem sA {k : Nat} (h : ∀ v,PG.AttrN P who S T (k + 1) v → PG.AttrN P who S T k v) : ∀ m,k ≤ m → ∀ v,rkV P who S T m v = rkV P who S T k v:=by
 intro m hm
 induction m with
 | zero => intro v; rw [show k = 0 by omega]
 | succ m ih =>
   intro v
   rcases Nat.lt_or_ge k (m + 1) with hk|hk
   · have ih:=ih (by omega) v
     by_cases h0 : 0 ≤ rkV P who S T m v
     · rw [pp h0,ih]
     · rw [mV h0 (fun h'=>h0 ((fN m v).2 (PG.attrN_mono (by omega) (j6 h (m + 1) (by omega) v h')))),ih]
   · rw [show k = m + 1 by omega]
end
theorem pq {g : Pa} (hg : PaOk g) {xs : List Int} {who : Int} {T : Nat → Prop} {k v : Nat} (hv : v < g.prio.length) (hS : (v : Int) ∈ xs) (hx : Bnd xs g.prio.length) (hr : ¬ 0 ≤ rkV (pgA g) who (fun v=>(v : Int) ∈ xs) T k v) :
  uq g.ar who (mks g.prio.length fun v=>(v : Int) ∈ xs) (tab g.prio.length (rkV (pgA g) who (fun v=>(v : Int) ∈ xs) T k)) v ↔ PG.AttrN (pgA g) who (fun v=>(v : Int) ∈ xs) T (k + 1) v:=by
 have hl:=hg.len
 have ho:=ur hg hv
 have hnx : ∀ i,i < (gr g.ar.nxt v).length → ∃ u : Nat,gi (gr g.ar.nxt v) i = u ∧ u < g.prio.length:=fun i hi=>by
  have:=xX hg.ar (by omega : v < g.ar.own.length) hi
  exact ⟨(gi (gr g.ar.nxt v) i).toNat,by omega,by omega⟩
 have hin : ∀ u,u < g.prio.length → (gb (mks g.prio.length fun v=>(v : Int) ∈ xs) u = true ↔ (u : Int) ∈ xs):=fun u hu=>by rw [fb _ hu];exact jF
 have hrk : ∀ u,u < g.prio.length → (0 ≤ gi (tab g.prio.length (rkV (pgA g) who (fun v=>(v : Int) ∈ xs) T k)) u ↔ PG.AttrN (pgA g) who (fun v=>(v : Int) ∈ xs) T k u):=fun u hu=>by rw [cH _ hu];exact fN k u
 constructor
 · rintro (⟨h1,i,h2,h3,h4⟩|⟨h1,⟨i,h2,h3⟩,h4⟩)
   · obtain ⟨u,e,hu⟩:=hnx i h2
     rw [e,Int.toNat_natCast] at h3 h4
     exact .inr (.inl ⟨hS,by rw [ho];exact h1,u,(jf v u).2 ⟨hv,hu,i,h2,e⟩,(hrk u hu).1 h4⟩)
   · obtain ⟨u,e,hu⟩:=hnx i h2
     rw [e,Int.toNat_natCast] at h3
     refine .inr (.inr ⟨hS,by rw [ho];exact h1,⟨u,(jf v u).2 ⟨hv,hu,i,h2,e⟩,(hin u hu).1 h3⟩,fun u' hE hu'=>?_⟩)
     obtain ⟨_,hu2,t,h5,h6⟩:=(jf v u').1 hE
     have:=h4 t h5
     rw [h6,Int.toNat_natCast] at this
     exact (hrk u' hu2).1 (this ((hin u' hu2).2 hu'))
 · rintro (h|⟨_,h1,u,h2,h3⟩|⟨_,h1,⟨u,h2,h3⟩,h4⟩)
   · exact absurd ((fN k v).2 h) hr
   · obtain ⟨_,hu,t,h5,h6⟩:=(jf v u).1 h2
     refine .inl ⟨by rw [← ho];exact h1,t,h5,?_⟩
     rw [h6,Int.toNat_natCast]
     exact ⟨(hin u hu).2 (PG.attrN_in h3),(hrk u hu).2 h3⟩
   · obtain ⟨_,hu,t,h5,h6⟩:=(jf v u).1 h2
     refine .inr ⟨by rw [← ho];exact h1,⟨t,h5,by rw [h6,Int.toNat_natCast];exact (hin u hu).2 h3⟩,fun i hi hb=>?_⟩
     obtain ⟨u',e,hu'⟩:=hnx i hi
     rw [e,Int.toNat_natCast] at hb ⊢
     exact (hrk u' hu').2 (h4 u' ((jf v u').2 ⟨hv,hu',i,hi,e⟩) ((hin u' hu').1 hb))
end Go.Proofs.Ythjamlponejffaa
