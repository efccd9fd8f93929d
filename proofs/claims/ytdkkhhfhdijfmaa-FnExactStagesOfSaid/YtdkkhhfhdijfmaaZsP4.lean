/-
  Priority promotion, the program: what is below, what is pulled.
-/
import Derived.Test.YtdkkhhfhdijfmaaZsP3
import Derived.Test.YtdkkhhfhdijfmaaZsBs
import Derived.Test.YtdkkhhfhdijfmaaZsNp
namespace Go.Proofs.Ytdkkhhfhdijfmaa
set_option linter.unusedVariables false
set_option linter.unusedSimpArgs false
open Go.RowKit
attribute [local irreducible] ay b9 Aw Le
abbrev stA (s : St) : AV:=.agg [.c (.I s.won),.c (.I s.region),.c (.int .i64 s.at_)]
abbrev stE (s : St) : Ent:=.box [.c (.I s.won),.c (.I s.region),.c (.int .i64 s.at_)]
theorem mr {xs : List Int} {m : Int} (hp : xs.Pairwise (· < ·)) (hb : ∀ x,x ∈ xs → 0 ≤ x ∧ x < m) : cu xs m:=fun k hk=>by
 have h1:=hb _ (db hk)
 refine ⟨h1.1,h1.2,fun h0=>?_⟩
 have h2:=List.pairwise_iff_getElem.1 hp (k - 1) k (by omega) hk (by omega)
 rwa [← dq (by omega : k - 1 < xs.length),← dq hk] at h2
theorem jO (p : Nat → Prop) : ∀ k,(lst p k).Pairwise (· < ·)
 | 0 => List.Pairwise.nil
 | k + 1 => by
   by_cases h : p k
   · rw [eZ h,List.pairwise_append]
     refine ⟨jO p k,by simp,fun x hx y hy=>?_⟩
     obtain ⟨v,h1,_,h3⟩:=fX.1 hx
     rw [List.mem_singleton.1 hy,h3];omega
   · rw [fy h];exact jO p k
theorem gN (p : Nat → Prop) (n : Nat) : cu (lst p n) n:=mr (jO p n) fun x hx=>by
 obtain ⟨v,h1,_,h3⟩:=fX.1 hx
 omega
theorem iJ {p : Int → Prop} {xs : List Int} (hx : xs.Pairwise (· < ·)) : ∀ k,k ≤ xs.length → (e8 p xs k).Pairwise (· < ·)
 | 0, _ => List.Pairwise.nil
 | k + 1, hk => by
   by_cases h : p (gi xs k)
   · rw [fA h,List.pairwise_append]
     refine ⟨iJ hx k (by omega),by simp,fun x hx' y hy=>?_⟩
     obtain ⟨j,h1,h2,_⟩:=(gw k (by omega)).1 hx'
     rw [List.mem_singleton.1 hy,← h2]
     have h3:=List.pairwise_iff_getElem.1 hx j k (by omega) (by omega) h1
     rwa [← dq (by omega : j < xs.length),← dq (by omega : k < xs.length)] at h3
   · rw [fZ h];exact iJ hx k (by omega)
theorem iK {p : Int → Prop} {xs : List Int} {x : Int} : x ∈ e8 p xs xs.length ↔ x ∈ xs ∧ p x:=by
 rw [gw _ (Nat.le_refl _)]
 constructor
 · rintro ⟨j,h1,h2,h3⟩;exact ⟨h2 ▸ db h1,h3⟩
 · rintro ⟨h1,h2⟩
   obtain ⟨j,h3,h4⟩:=d4 h1
   exact ⟨j,h3,h4,h2⟩
theorem i4 {p : Int → Prop} {xs : List Int} {m : Int} (h : cu xs m) : cu (e8 p xs xs.length) m:=mr (iJ (ls h) _ (Nat.le_refl _)) fun x hx=>by
 obtain ⟨j,h1,h2⟩:=d4 (iK.1 hx).1
 have:=h j h1
 rw [← h2];exact ⟨this.1,this.2.1⟩
noncomputable def eT (s : St) (p : Int) : List Int:=lst (fun v=>0 ≤ gi s.region v ∧ gi s.region v ≤ p) s.region.length
theorem dN {g : Pa} {s : St} (h : StOk g s) (p : Int) (v : Nat) : (v : Int) ∈ eT s p ↔ Blw g s p v:=by
 unfold eT
 rw [fX,h.lr]
 exact ⟨fun ⟨u,h1,h2,h3⟩=>by
  have : u = v:=by omega
  subst this;exact ⟨h1,h2⟩,fun h=>⟨v,h.1,h.2,rfl⟩⟩
theorem eU (s : St) (p : Int) (hl : s.region.length ≤ 256) : ay Try.prog 61 [stA s,.c (.int .i64 p)] [.arr 2 .yes (.I (eT s p))] (fun ns=>.sl (ns.getD 0 0)):=by
 (refine bv aE Try.func61 rfl rfl (by kernel_rfl) fun hp0 ν hX hN=>?_;simp only [co,Nat.reduceAdd])
 (repeat' (first|(with_reducible first|(apply hK;clear hK K)|refine stZ ?_|refine aQ rfl ?_|((first|apply ae|apply af);clear ae X af Y))|(with_reducible refine aT ?_;first|refine aR rfl ?_|refine aS rfl ?_)|(with_reducible refine bh ?_;first|refine aM rfl rfl rfl rfl ?_|refine bf rfl rfl rfl ?_|refine bB rfl rfl rfl rfl ?_)|((first|(with_reducible first|((first|refine aW ?_|refine aX ?_);intro K hK)|(refine aC ?_;intro X Y ae af)|refine aD ?_)|(with_reducible refine bh ?_;refine aN rfl rfl fun X Y ae af=>?_));simp (disch:=first|decide|omega|(simp only [List.length_cons,List.length_nil];omega)) only [go_sem,↓aj hN,am hN,reduceIte,reduceCtorEq,Nat.reduceAdd,Nat.reduceLT,Nat.reduceLeDiff,Nat.reduceEqDiff,Nat.reduceSub])|(with_reducible refine And.intro (fun h=>?_) (fun h=>?_) <;> try (exfalso;omega))|(with_reducible refine aV aE hN ?_)|(with_reducible refine And.intro ?_ ?_)|(refine ah ?_;omega)|(exact aU hN (by decide))))
 (refine bM (fun (k : Nat)=>(tmL [(12,.c (.int .i64 k)),(11,.c (.int .i64 s.region.length)),(10,.c (.I s.region)),(5,.sl (ν 1)),(1,.c (.int .i64 p))],hpL hp0 ν [.dead,.arr 2 .yes (.I (lst (fun v=>0 ≤ gi s.region v ∧ gi s.region v ≤ p) k))])) (fun (k : Nat)=>k ≤ s.region.length) (fun (k : Nat)=>s.region.length - k) ⟨0,?_,bj hX hN [] ?_ ?_⟩ ?_;(repeat' (first|(with_reducible first|exact clZ|refine bm ?_ ?_|refine bn ?_ ?_|rfl|refine suZ ?_)|refine bo rfl ?_ ?_|exact aJ hN _ rfl rfl rfl|exact aK hN _ rfl rfl rfl|exact ap hN _ rfl rfl rfl (Or.inr rfl)|(refine aL hN _ rfl rfl (by first|exact Or.inr rfl|exact Or.inl rfl) ?_;first|exact aF _|exact aG _)|refine aq hN rfl ?_|refine au hN rfl rfl ?_|exact ao hN _ rfl rfl|exact aw hN rfl rfl rfl rfl|(with_reducible first|refine stZ ?_|refine aI ?_)));(try (any_goals (first|(with_reducible rfl)|(refine ah ?_;omega)))))
 · rfl
 intro k hk
 have hll:=n8 (fun v=>0 ≤ gi s.region v ∧ gi s.region v ≤ p) k
 (repeat' (first|(with_reducible first|(apply hK;clear hK K)|refine stZ ?_|refine aQ rfl ?_|((first|apply ae|apply af);clear ae X af Y))|(with_reducible refine aT ?_;first|refine aR rfl ?_|refine aS rfl ?_)|(with_reducible refine bh ?_;first|refine aM rfl rfl rfl rfl ?_|refine bf rfl rfl rfl ?_|refine bB rfl rfl rfl rfl ?_)|((first|(with_reducible first|((first|refine aW ?_|refine aX ?_);intro K hK)|(refine aC ?_;intro X Y ae af)|refine aD ?_)|(with_reducible refine bh ?_;refine aN rfl rfl fun X Y ae af=>?_));simp (disch:=first|decide|omega|(simp only [List.length_cons,List.length_nil];omega)) only [go_sem,↓aj hN,am hN,reduceIte,reduceCtorEq,Nat.reduceAdd,Nat.reduceLT,Nat.reduceLeDiff,Nat.reduceEqDiff,Nat.reduceSub])|(with_reducible refine And.intro (fun h=>?_) (fun h=>?_) <;> try (exfalso;omega))|(with_reducible refine aV aE hN ?_)|(with_reducible refine And.intro ?_ ?_)|(refine ah ?_;omega)|(exact aU hN (by decide))))
 · (refine ⟨k + 1,⟨?_,?_⟩,bj hX hN [(1,3)] ?_ ?_⟩;(try any_goals dsimp only);(repeat' (first|(with_reducible first|exact clZ|refine bm ?_ ?_|refine bn ?_ ?_|rfl|refine suZ ?_)|refine bo rfl ?_ ?_|exact aJ hN _ rfl rfl rfl|exact aK hN _ rfl rfl rfl|exact ap hN _ rfl rfl rfl (Or.inr rfl)|(refine aL hN _ rfl rfl (by first|exact Or.inr rfl|exact Or.inl rfl) ?_;first|exact aF _|exact aG _)|refine aq hN rfl ?_|refine au hN rfl rfl ?_|exact ao hN _ rfl rfl|exact aw hN rfl rfl rfl rfl|(with_reducible first|refine stZ ?_|refine aI ?_)));(try (any_goals (first|(with_reducible rfl)|(refine ah ?_;omega)))))
   exact eZ ⟨by assumption,by assumption⟩
 · (refine ⟨k + 1,⟨?_,?_⟩,bj hX hN [] ?_ ?_⟩;(try any_goals dsimp only);(repeat' (first|(with_reducible first|exact clZ|refine bm ?_ ?_|refine bn ?_ ?_|rfl|refine suZ ?_)|refine bo rfl ?_ ?_|exact aJ hN _ rfl rfl rfl|exact aK hN _ rfl rfl rfl|exact ap hN _ rfl rfl rfl (Or.inr rfl)|(refine aL hN _ rfl rfl (by first|exact Or.inr rfl|exact Or.inl rfl) ?_;first|exact aF _|exact aG _)|refine aq hN rfl ?_|refine au hN rfl rfl ?_|exact ao hN _ rfl rfl|exact aw hN rfl rfl rfl rfl|(with_reducible first|refine stZ ?_|refine aI ?_)));(try (any_goals (first|(with_reducible rfl)|(refine ah ?_;omega)))))
   exact fy fun h=>absurd h.2 (by assumption)
 · (refine ⟨k + 1,⟨?_,?_⟩,bj hX hN [] ?_ ?_⟩;(try any_goals dsimp only);(repeat' (first|(with_reducible first|exact clZ|refine bm ?_ ?_|refine bn ?_ ?_|rfl|refine suZ ?_)|refine bo rfl ?_ ?_|exact aJ hN _ rfl rfl rfl|exact aK hN _ rfl rfl rfl|exact ap hN _ rfl rfl rfl (Or.inr rfl)|(refine aL hN _ rfl rfl (by first|exact Or.inr rfl|exact Or.inl rfl) ?_;first|exact aF _|exact aG _)|refine aq hN rfl ?_|refine au hN rfl rfl ?_|exact ao hN _ rfl rfl|exact aw hN rfl rfl rfl rfl|(with_reducible first|refine stZ ?_|refine aI ?_)));(try (any_goals (first|(with_reducible rfl)|(refine ah ?_;omega)))))
   exact fy fun h=>absurd h.1 (by assumption)
 · (refine cV hN (i:=1) (.inr rfl) (by first|rfl|(simp (disch:=first|decide|omega|(simp only [List.length_cons,List.length_nil];omega)) only [bS,bV,bW,b7,go_sem,beq_self_eq_true,↓az,↓aj hN,am hN,reduceIte,reduceCtorEq,Nat.reduceAdd,Nat.reduceLT,Nat.reduceLeDiff,Nat.reduceEqDiff,Nat.reduceSub];rfl)) rfl ?_ rfl)
   rw [show k = s.region.length by omega];rfl
theorem ej {g : Pa} {s : St} (h : StOk g s) (p : Int) : cu (eT s p) g.prio.length:=by
 have:=gN (fun v=>0 ≤ gi s.region v ∧ gi s.region v ≤ p) s.region.length
 rw [h.lr] at this
 unfold eT;rw [h.lr];exact this
noncomputable def c9 (g : Pa) (s : St) : List Int:=lst (Pul g s) g.prio.length
theorem eo (g : Pa) (hg : PaOk g) (s : St) (h : StOk g s) (h0 : 0 ≤ s.at_) : ay Try.prog 58 [paA g,stA s] [.arr 2 .yes (.I (c9 g s))] (fun ns=>.sl (ns.getD 0 0)):=by
 have hl:=hg.len
 have hle:=hg.ar.le
 have hlr:=h.lr
 have ha : s.at_ ≤ 40:=by rcases h.at' with h1|h1 <;> omega
 have hb1:=eU s s.at_ (by omega)
 have hb2:=eU s (s.at_ - 1) (by omega)
 have hs1:=ej h s.at_
 have hs2:=ej h (s.at_ - 1)
 have hl1:=cj hs1 (by omega)
 have hl2:=cj hs2 (by omega)
 have hle2:=kz (eT s s.at_) (eT s (s.at_ - 1)) (by omega) (ls hs2) (by omega)
 have hat:=ky g hg (s.at_.tmod 2) (eT s s.at_) _ hs1 (i4 (p:=fun x=>¬ x ∈ eT s (s.at_ - 1)) hs1)
 have he : tU g (s.at_.tmod 2) (eT s s.at_) (e8 (fun x=>¬ x ∈ eT s (s.at_ - 1)) (eT s s.at_) (eT s s.at_).length) = c9 g s:=by
  refine kc fun v hv=>PG.attr_congr (fun u=>dN h _ u) (fun u hu=>?_) v
  have hu':=(dN h _ u).1 hu
  rw [iK,dN h,dN h]
  constructor
  · rintro ⟨h1,h2⟩
    refine ⟨h1.1,?_⟩
    have h3:=h1.2.2
    rcases Int.lt_or_le (gi s.region u) s.at_ with h4|h4
    · exact absurd ⟨h1.1,h1.2.1,by omega⟩ h2
    · omega
  · rintro ⟨h1,h2⟩
    exact ⟨hu',fun h3=>by have:=h3.2.2;omega⟩
 rw [he] at hat
 (refine bv aE Try.func58 rfl rfl (by kernel_rfl) fun hp0 ν hX hN=>?_;simp only [co,Nat.reduceAdd])
 (repeat' (first|(with_reducible first|(apply hK;clear hK K)|refine stZ ?_|refine aQ rfl ?_|((first|apply ae|apply af);clear ae X af Y))|(with_reducible refine aT ?_;first|refine aR rfl ?_|refine aS rfl ?_)|(with_reducible refine bE ?_;refine bH hN ?_)|((with_reducible first|((first|refine aW ?_|refine bI ?_|refine aX ?_|refine bJ ?_);intro K hK)|(refine aC ?_;intro X Y ae af)|refine aD ?_);simp (disch:=first|decide|omega|(simp only [List.length_cons,List.length_nil];omega)) only [go_sem,↓aj hN,am hN,reduceIte,reduceCtorEq,Nat.reduceAdd,Nat.reduceLT,Nat.reduceLeDiff,Nat.reduceEqDiff,Nat.reduceSub])|(with_reducible refine And.intro (fun h=>?_) (fun h=>?_) <;> try (exfalso;omega))|(with_reducible refine aV aE hN ?_)|(with_reducible refine bi aE hN ?_)|((first|refine bd (hb1) ?_ rfl (fun _=>rfl) ?_|refine bd (hle2) ?_ rfl (fun _=>rfl) ?_|refine bd (hat) ?_ rfl (fun _=>rfl) ?_);focus ((repeat' (first|(with_reducible first|exact aA|refine ax ?_ ?_|exact bP _|refine a9 ?_|exact bc _|exact bA _ _|refine bz ?_|exact aZ _)|exact ba hN rfl rfl|(refine bw hN rfl ?_;first|exact aF _|exact aG _)|exact a8 rfl rfl rfl));done))|(refine bd (hb2) ?_ rfl (fun _=>rfl) ?_;focus ((repeat' (first|(with_reducible first|exact aA|refine ax ?_ ?_|exact bP _|refine a9 ?_|exact bc _|exact bA _ _|refine bz ?_|exact aZ _)|exact ba hN rfl rfl|(refine bw hN rfl ?_;first|exact aF _|exact aG _)|exact a8 rfl rfl rfl));done))|(with_reducible first|exact aA|refine ax ?_ ?_|exact bP _|refine a9 ?_|exact bc _|exact bA _ _|refine bz ?_|exact aZ _)|exact ba hN rfl rfl|(refine bw hN rfl ?_;first|exact aF _|exact aG _)|exact a8 rfl rfl rfl|(simp only [bt,List.map_nil])|(with_reducible refine bN ?_)|(with_reducible refine And.intro ?_ ?_)|(refine ah ?_;omega)|(exact aU hN (by decide))))
 (refine cV hN (i:=5) (.inr rfl) (by first|rfl|(simp (disch:=first|decide|omega|(simp only [List.length_cons,List.length_nil];omega)) only [bS,bV,bW,b7,go_sem,beq_self_eq_true,↓az,↓aj hN,am hN,reduceIte,reduceCtorEq,Nat.reduceAdd,Nat.reduceLT,Nat.reduceLeDiff,Nat.reduceEqDiff,Nat.reduceSub];rfl)) rfl ?_ rfl)
 rfl
end Go.Proofs.Ytdkkhhfhdijfmaa
