/-
  Priority promotion, the program: what is below, what is pulled.
-/
import Derived.Test.YtdkkhhfhdijfmaaZpP3
import Derived.Test.YtdkkhhfhdijfmaaZpBs
import Derived.Test.YtdkkhhfhdijfmaaZpNp
namespace Go.Proofs.Ytdkkhhfhdijfmaa
set_option linter.unusedVariables false
set_option linter.unusedSimpArgs false
open Go.RowKit
attribute [local irreducible] ay b8 Aw Le
abbrev stA (s : St) : AV:=.agg [.c (.I s.won),.c (.I s.region),.c (.int .i64 s.at_)]
abbrev stE (s : St) : Ent:=.box [.c (.I s.won),.c (.I s.region),.c (.int .i64 s.at_)]
theorem mp {xs : List Int} {m : Int} (hp : xs.Pairwise (· < ·)) (hb : ∀ x,x ∈ xs → 0 ≤ x ∧ x < m) : cu xs m:=fun k hk=>by
 have h1:=hb _ (c8 hk)
 refine ⟨h1.1,h1.2,fun h0=>?_⟩
 have h2:=List.pairwise_iff_getElem.1 hp (k - 1) k (by omega) hk (by omega)
 rwa [← dm (by omega : k - 1 < xs.length),← dm hk] at h2
theorem jH (p : Nat → Prop) : ∀ k,(lst p k).Pairwise (· < ·)
 | 0 => List.Pairwise.nil
 | k + 1 => by
   by_cases h : p k
   · rw [eT h,List.pairwise_append]
     refine ⟨jH p k,by simp,fun x hx y hy=>?_⟩
     obtain ⟨v,h1,_,h3⟩:=fR.1 hx
     rw [List.mem_singleton.1 hy,h3];omega
   · rw [fx h];exact jH p k
theorem gG (p : Nat → Prop) (n : Nat) : cu (lst p n) n:=mp (jH p n) fun x hx=>by
 obtain ⟨v,h1,_,h3⟩:=fR.1 hx
 omega
theorem iD {p : Int → Prop} {xs : List Int} (hx : xs.Pairwise (· < ·)) : ∀ k,k ≤ xs.length → (eU p xs k).Pairwise (· < ·)
 | 0, _ => List.Pairwise.nil
 | k + 1, hk => by
   by_cases h : p (gi xs k)
   · rw [fy h,List.pairwise_append]
     refine ⟨iD hx k (by omega),by simp,fun x hx' y hy=>?_⟩
     obtain ⟨j,h1,h2,_⟩:=(gl k (by omega)).1 hx'
     rw [List.mem_singleton.1 hy,← h2]
     have h3:=List.pairwise_iff_getElem.1 hx j k (by omega) (by omega) h1
     rwa [← dm (by omega : j < xs.length),← dm (by omega : k < xs.length)] at h3
   · rw [fT h];exact iD hx k (by omega)
theorem iE {p : Int → Prop} {xs : List Int} {x : Int} : x ∈ eU p xs xs.length ↔ x ∈ xs ∧ p x:=by
 rw [gl _ (Nat.le_refl _)]
 constructor
 · rintro ⟨j,h1,h2,h3⟩;exact ⟨h2 ▸ c8 h1,h3⟩
 · rintro ⟨h1,h2⟩
   obtain ⟨j,h3,h4⟩:=dX h1
   exact ⟨j,h3,h4,h2⟩
theorem iS {p : Int → Prop} {xs : List Int} {m : Int} (h : cu xs m) : cu (eU p xs xs.length) m:=mp (iD (li h) _ (Nat.le_refl _)) fun x hx=>by
 obtain ⟨j,h1,h2⟩:=dX (iE.1 hx).1
 have:=h j h1
 rw [← h2];exact ⟨this.1,this.2.1⟩
noncomputable def eM (s : St) (p : Int) : List Int:=lst (fun v=>0 ≤ gi s.region v ∧ gi s.region v ≤ p) s.region.length
theorem dK {g : Pa} {s : St} (h : StOk g s) (p : Int) (v : Nat) : (v : Int) ∈ eM s p ↔ Blw g s p v:=by
 unfold eM
 rw [fR,h.lr]
 exact ⟨fun ⟨u,h1,h2,h3⟩=>by
  have : u = v:=by omega
  subst this;exact ⟨h1,h2⟩,fun h=>⟨v,h.1,h.2,rfl⟩⟩
theorem eN (s : St) (p : Int) (hl : s.region.length ≤ 256) : ay Try.prog 61 [stA s,.c (.int .i64 p)] [.arr 2 .yes (.I (eM s p))] (fun ns=>.sl (ns.getD 0 0)):=by
 (refine bv aE Try.func61 rfl rfl (by kernel_rfl) fun hp0 ν hX hN=>?_;simp only [cr,Nat.reduceAdd])
 (repeat' (first|(with_reducible first|(apply hK;clear hK K)|refine stZ ?_|refine aP rfl ?_|((first|apply ae|apply af);clear ae X af Y))|(with_reducible refine aS ?_;first|refine aQ rfl ?_|refine aR rfl ?_)|(with_reducible refine bg ?_;first|refine aM rfl rfl rfl rfl ?_|refine bf rfl rfl rfl ?_|refine bB rfl rfl rfl rfl ?_)|((first|(with_reducible first|((first|refine aV ?_|refine aW ?_);intro K hK)|(refine aB ?_;intro X Y ae af)|refine aC ?_)|(with_reducible refine bg ?_;refine aN rfl rfl fun X Y ae af=>?_));simp (disch:=first|decide|omega|(simp only [List.length_cons,List.length_nil];omega)) only [go_sem,↓aj hN,ak hN,reduceIte,reduceCtorEq,Nat.reduceAdd,Nat.reduceLT,Nat.reduceLeDiff,Nat.reduceEqDiff,Nat.reduceSub])|(with_reducible refine And.intro (fun h=>?_) (fun h=>?_) <;> try (exfalso;omega))|(with_reducible refine aU aE hN ?_)|(with_reducible refine And.intro ?_ ?_)|(refine ah ?_;omega)|(exact aT hN (by decide))))
 (refine bL (fun (k : Nat)=>(tmL [(12,.c (.int .i64 k)),(11,.c (.int .i64 s.region.length)),(10,.c (.I s.region)),(5,.sl (ν 1)),(1,.c (.int .i64 p))],hpL hp0 ν [.dead,.arr 2 .yes (.I (lst (fun v=>0 ≤ gi s.region v ∧ gi s.region v ≤ p) k))])) (fun (k : Nat)=>k ≤ s.region.length) (fun (k : Nat)=>s.region.length - k) ⟨0,?_,bi hX hN [] ?_ ?_⟩ ?_;(repeat' (first|(with_reducible first|exact clZ|refine bj ?_ ?_|refine bm ?_ ?_|rfl|refine suZ ?_)|refine bn rfl ?_ ?_|exact aI hN _ rfl rfl rfl|exact aJ hN _ rfl rfl rfl|exact ap hN _ rfl rfl rfl (Or.inr rfl)|(refine aK hN _ rfl rfl (by first|exact Or.inr rfl|exact Or.inl rfl) ?_;first|exact aF _|exact aG _)|refine aq hN rfl ?_|refine au hN rfl rfl ?_|exact ao hN _ rfl rfl|exact aw hN rfl rfl rfl rfl|(with_reducible first|refine stZ ?_|refine aH ?_)));(try (any_goals (first|(with_reducible rfl)|(refine ah ?_;omega)))))
 · rfl
 intro k hk
 have hll:=nM (fun v=>0 ≤ gi s.region v ∧ gi s.region v ≤ p) k
 (repeat' (first|(with_reducible first|(apply hK;clear hK K)|refine stZ ?_|refine aP rfl ?_|((first|apply ae|apply af);clear ae X af Y))|(with_reducible refine aS ?_;first|refine aQ rfl ?_|refine aR rfl ?_)|(with_reducible refine bg ?_;first|refine aM rfl rfl rfl rfl ?_|refine bf rfl rfl rfl ?_|refine bB rfl rfl rfl rfl ?_)|((first|(with_reducible first|((first|refine aV ?_|refine aW ?_);intro K hK)|(refine aB ?_;intro X Y ae af)|refine aC ?_)|(with_reducible refine bg ?_;refine aN rfl rfl fun X Y ae af=>?_));simp (disch:=first|decide|omega|(simp only [List.length_cons,List.length_nil];omega)) only [go_sem,↓aj hN,ak hN,reduceIte,reduceCtorEq,Nat.reduceAdd,Nat.reduceLT,Nat.reduceLeDiff,Nat.reduceEqDiff,Nat.reduceSub])|(with_reducible refine And.intro (fun h=>?_) (fun h=>?_) <;> try (exfalso;omega))|(with_reducible refine aU aE hN ?_)|(with_reducible refine And.intro ?_ ?_)|(refine ah ?_;omega)|(exact aT hN (by decide))))
 · (refine ⟨k + 1,⟨?_,?_⟩,bi hX hN [(1,3)] ?_ ?_⟩;(try any_goals dsimp only);(repeat' (first|(with_reducible first|exact clZ|refine bj ?_ ?_|refine bm ?_ ?_|rfl|refine suZ ?_)|refine bn rfl ?_ ?_|exact aI hN _ rfl rfl rfl|exact aJ hN _ rfl rfl rfl|exact ap hN _ rfl rfl rfl (Or.inr rfl)|(refine aK hN _ rfl rfl (by first|exact Or.inr rfl|exact Or.inl rfl) ?_;first|exact aF _|exact aG _)|refine aq hN rfl ?_|refine au hN rfl rfl ?_|exact ao hN _ rfl rfl|exact aw hN rfl rfl rfl rfl|(with_reducible first|refine stZ ?_|refine aH ?_)));(try (any_goals (first|(with_reducible rfl)|(refine ah ?_;omega)))))
   exact eT ⟨by assumption,by assumption⟩
 · (refine ⟨k + 1,⟨?_,?_⟩,bi hX hN [] ?_ ?_⟩;(try any_goals dsimp only);(repeat' (first|(with_reducible first|exact clZ|refine bj ?_ ?_|refine bm ?_ ?_|rfl|refine suZ ?_)|refine bn rfl ?_ ?_|exact aI hN _ rfl rfl rfl|exact aJ hN _ rfl rfl rfl|exact ap hN _ rfl rfl rfl (Or.inr rfl)|(refine aK hN _ rfl rfl (by first|exact Or.inr rfl|exact Or.inl rfl) ?_;first|exact aF _|exact aG _)|refine aq hN rfl ?_|refine au hN rfl rfl ?_|exact ao hN _ rfl rfl|exact aw hN rfl rfl rfl rfl|(with_reducible first|refine stZ ?_|refine aH ?_)));(try (any_goals (first|(with_reducible rfl)|(refine ah ?_;omega)))))
   exact fx fun h=>absurd h.2 (by assumption)
 · (refine ⟨k + 1,⟨?_,?_⟩,bi hX hN [] ?_ ?_⟩;(try any_goals dsimp only);(repeat' (first|(with_reducible first|exact clZ|refine bj ?_ ?_|refine bm ?_ ?_|rfl|refine suZ ?_)|refine bn rfl ?_ ?_|exact aI hN _ rfl rfl rfl|exact aJ hN _ rfl rfl rfl|exact ap hN _ rfl rfl rfl (Or.inr rfl)|(refine aK hN _ rfl rfl (by first|exact Or.inr rfl|exact Or.inl rfl) ?_;first|exact aF _|exact aG _)|refine aq hN rfl ?_|refine au hN rfl rfl ?_|exact ao hN _ rfl rfl|exact aw hN rfl rfl rfl rfl|(with_reducible first|refine stZ ?_|refine aH ?_)));(try (any_goals (first|(with_reducible rfl)|(refine ah ?_;omega)))))
   exact fx fun h=>absurd h.1 (by assumption)
 · (refine db hN (i:=1) (.inr rfl) (by first|rfl|(simp (disch:=first|decide|omega|(simp only [List.length_cons,List.length_nil];omega)) only [bS,bU,bW,b7,go_sem,beq_self_eq_true,↓az,↓aj hN,ak hN,reduceIte,reduceCtorEq,Nat.reduceAdd,Nat.reduceLT,Nat.reduceLeDiff,Nat.reduceEqDiff,Nat.reduceSub];rfl)) rfl ?_ rfl)
   rw [show k = s.region.length by omega];rfl
theorem ec {g : Pa} {s : St} (h : StOk g s) (p : Int) : cu (eM s p) g.prio.length:=by
 have:=gG (fun v=>0 ≤ gi s.region v ∧ gi s.region v ≤ p) s.region.length
 rw [h.lr] at this
 unfold eM;rw [h.lr];exact this
noncomputable def cY (g : Pa) (s : St) : List Int:=lst (Pul g s) g.prio.length
theorem ee (g : Pa) (hg : PaOk g) (s : St) (h : StOk g s) (h0 : 0 ≤ s.at_) : ay Try.prog 58 [paA g,stA s] [.arr 2 .yes (.I (cY g s))] (fun ns=>.sl (ns.getD 0 0)):=by
 have hl:=hg.len
 have hle:=hg.ar.le
 have hlr:=h.lr
 have ha : s.at_ ≤ 40:=by rcases h.at' with h1|h1 <;> omega
 have hb1:=eN s s.at_ (by omega)
 have hb2:=eN s (s.at_ - 1) (by omega)
 have hs1:=ec h s.at_
 have hs2:=ec h (s.at_ - 1)
 have hl1:=ck hs1 (by omega)
 have hl2:=ck hs2 (by omega)
 have hle2:=kt (eM s s.at_) (eM s (s.at_ - 1)) (by omega) (li hs2) (by omega)
 have hat:=ks g hg (s.at_.tmod 2) (eM s s.at_) _ hs1 (iS (p:=fun x=>¬ x ∈ eM s (s.at_ - 1)) hs1)
 have he : tw g (s.at_.tmod 2) (eM s s.at_) (eU (fun x=>¬ x ∈ eM s (s.at_ - 1)) (eM s s.at_) (eM s s.at_).length) = cY g s:=by
  refine j5 fun v hv=>PG.attr_congr (fun u=>dK h _ u) (fun u hu=>?_) v
  have hu':=(dK h _ u).1 hu
  rw [iE,dK h,dK h]
  constructor
  · rintro ⟨h1,h2⟩
    refine ⟨h1.1,?_⟩
    have h3:=h1.2.2
    rcases Int.lt_or_le (gi s.region u) s.at_ with h4|h4
    · exact absurd ⟨h1.1,h1.2.1,by omega⟩ h2
    · omega
  · rintro ⟨h1,h2⟩
    exact ⟨hu',fun h3=>by have:=h3.2.2;omega⟩
 rw [he] at hat
 (refine bv aE Try.func58 rfl rfl (by kernel_rfl) fun hp0 ν hX hN=>?_;simp only [cr,Nat.reduceAdd])
 (repeat' (first|(with_reducible first|(apply hK;clear hK K)|refine stZ ?_|refine aP rfl ?_|((first|apply ae|apply af);clear ae X af Y))|(with_reducible refine aS ?_;first|refine aQ rfl ?_|refine aR rfl ?_)|(with_reducible refine bE ?_;refine bH hN ?_)|((with_reducible first|((first|refine aV ?_|refine bI ?_|refine aW ?_|refine bJ ?_);intro K hK)|(refine aB ?_;intro X Y ae af)|refine aC ?_);simp (disch:=first|decide|omega|(simp only [List.length_cons,List.length_nil];omega)) only [go_sem,↓aj hN,ak hN,reduceIte,reduceCtorEq,Nat.reduceAdd,Nat.reduceLT,Nat.reduceLeDiff,Nat.reduceEqDiff,Nat.reduceSub])|(with_reducible refine And.intro (fun h=>?_) (fun h=>?_) <;> try (exfalso;omega))|(with_reducible refine aU aE hN ?_)|(with_reducible refine bh aE hN ?_)|((first|refine bc (hb1) ?_ rfl (fun _=>rfl) ?_|refine bc (hle2) ?_ rfl (fun _=>rfl) ?_|refine bc (hat) ?_ rfl (fun _=>rfl) ?_);focus ((repeat' (first|(with_reducible first|exact aA|refine ax ?_ ?_|exact bO _|refine a8 ?_|exact ba _|exact bA _ _|refine bz ?_|exact aY _)|exact a9 hN rfl rfl|(refine bw hN rfl ?_;first|exact aF _|exact aG _)|exact aZ rfl rfl rfl));done))|(refine bc (hb2) ?_ rfl (fun _=>rfl) ?_;focus ((repeat' (first|(with_reducible first|exact aA|refine ax ?_ ?_|exact bO _|refine a8 ?_|exact ba _|exact bA _ _|refine bz ?_|exact aY _)|exact a9 hN rfl rfl|(refine bw hN rfl ?_;first|exact aF _|exact aG _)|exact aZ rfl rfl rfl));done))|(with_reducible first|exact aA|refine ax ?_ ?_|exact bO _|refine a8 ?_|exact ba _|exact bA _ _|refine bz ?_|exact aY _)|exact a9 hN rfl rfl|(refine bw hN rfl ?_;first|exact aF _|exact aG _)|exact aZ rfl rfl rfl|(simp only [bt,List.map_nil])|(with_reducible refine bM ?_)|(with_reducible refine And.intro ?_ ?_)|(refine ah ?_;omega)|(exact aT hN (by decide))))
 (refine db hN (i:=5) (.inr rfl) (by first|rfl|(simp (disch:=first|decide|omega|(simp only [List.length_cons,List.length_nil];omega)) only [bS,bU,bW,b7,go_sem,beq_self_eq_true,↓az,↓aj hN,ak hN,reduceIte,reduceCtorEq,Nat.reduceAdd,Nat.reduceLT,Nat.reduceLeDiff,Nat.reduceEqDiff,Nat.reduceSub];rfl)) rfl ?_ rfl)
 rfl
end Go.Proofs.Ytdkkhhfhdijfmaa
