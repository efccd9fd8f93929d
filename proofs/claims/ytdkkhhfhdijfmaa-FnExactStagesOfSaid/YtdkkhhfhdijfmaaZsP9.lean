/-
  Priority promotion, the program: a step that wins; any step.
-/
import Derived.Test.YtdkkhhfhdijfmaaZsP8
namespace Go.Proofs.Ytdkkhhfhdijfmaa
set_option linter.unusedVariables false
set_option linter.unusedSimpArgs false
open Go.RowKit
attribute [local irreducible] ay b9 Aw Le
theorem lu {p q : Nat → Prop} {f : Nat → Int} : ∀ n,(∀ v,v < n → (p v ↔ q v)) → mxN p f n = mxN q f n
 | 0, _ => rfl
 | n + 1, h => by
   have ih:=lu (p:=p) (q:=q) (f:=f) n fun v hv=>h v (by omega)
   by_cases hp : p n
   · rw [dv hp,dv ((h n (by omega)).1 hp),ih]
   · rw [eg hp,eg (fun hq=>hp ((h n (by omega)).2 hq)),ih]
theorem ud {p : Nat → Prop} {f : Nat → Int} {k : Nat} (h : p k) : (if mxN p f k < f k then f k else mxN p f k) = mxN p f (k + 1):=by
 rw [dv h]
 split <;> omega
noncomputable def r1W (g : Pa) (s : St) (v : Nat) : Int:=@ite Int (dj g s v) (Classical.propDecidable _) (-1) (gi s.region v)
theorem nG {g : Pa} {s : St} (hO : StOk g s) {v : Nat} (hv : v < g.prio.length) : 0 ≤ r1W g s v ↔ Blw g s 40 v ∧ ¬ dj g s v:=by
 unfold r1W
 by_cases h : dj g s v
 · rw [if_pos h];exact ⟨fun h'=>absurd h' (by decide),fun h'=>absurd h h'.2⟩
 · rw [if_neg h]
   exact ⟨fun h'=>⟨⟨hv,h',(hO.opn hv h').2.2⟩,h⟩,fun h'=>h'.1.2.1⟩
theorem uf {g : Pa} (hg : PaOk g) {s : St} (hO : StOk g s) {v : Nat} (hv : v < g.prio.length) (h : ¬ 0 ≤ r1W g s v) : r1W g s v = -1:=by
 unfold r1W at h ⊢
 by_cases hA : dj g s v
 · rw [if_pos hA]
 · rw [if_neg hA] at h ⊢
   rcases hO.reg v hv with h1|h1
   · exact absurd (Int.le_trans (hg.prio v hv).1 h1.2.1) h
   · exact h1.2
set_option maxHeartbeats 2000000 in
theorem pq (g : Pa) (hg : PaOk g) (s : St) (hO : StOk g s) (h0 : 0 ≤ s.at_) (hn : cQ g s) (hu : ¬ 0 ≤ upV g s) : ay Try.prog 37 [paA g,stA s] [.arr 2 .yes (.I (dk g s).won),.arr 2 .yes (.I (dk g s).region)] (fun ns=>.tup [.agg [.sl (ns.getD 0 0),.sl (ns.getD 1 0),.c (.int .i64 (dk g s).at_)],.c (.int .i64 3)]):=by
 have hl:=hg.len
 have hle:=hg.ar.le
 have hlr:=hO.lr
 have hlw:=hO.lw
 have ha : s.at_ ≤ 40:=by rcases hO.at' with h1|h1 <;> omega
 have hp:=eo g hg s hO h0
 have hps:=ep g s
 have hpl:=cj hps (by omega)
 have hsh:=jP g hg s hO h0
 rw [bg hn] at hsh
 have hcp:=fU s (by omega) (by omega)
 have hle3:=i5 g hg s hO h0
 have hb4:=eU s 40 (by omega)
 have hbs:=ej hO 40
 have hbl2:=cj hbs (by omega)
 have hat:=ky g hg (s.at_.tmod 2) (eT s 40) (c9 g s) hbs hps
 have he : tU g (s.at_.tmod 2) (eT s 40) (c9 g s) = lst (dj g s) g.prio.length:=kc fun v hv=>PG.attr_congr (fun u=>dN hO _ u) (fun u hu'=>iq ((dN hO _ u).1 hu').1) v
 rw [he] at hat
 have hAs:=gN (dj g s) g.prio.length
 have hAm : ∀ v,v < g.prio.length → ((v : Int) ∈ lst (dj g s) g.prio.length ↔ dj g s v):=fun v hv=>by
  rw [fX]
  exact ⟨fun ⟨u,_,h2,h3⟩=>by
   have : u = v:=by omega
   subst this;exact h2,fun h=>⟨v,hv,h,rfl⟩⟩
 have hAb:=hAs.bnd
 have hAl:=cj hAs (by omega)
 generalize lst (dj g s) g.prio.length = A at *
 (refine bv aE Try.func37 rfl rfl (by kernel_rfl) fun hp0 ν hX hN=>?_;simp only [co,Nat.reduceAdd])
 (repeat' (first|(with_reducible first|(apply hK;clear hK K)|refine stZ ?_|refine aQ rfl ?_|((first|apply ae|apply af);clear ae X af Y))|(with_reducible refine aT ?_;first|refine aR rfl ?_|refine aS rfl ?_)|(with_reducible refine bh ?_;first|refine aM rfl rfl rfl rfl ?_|refine bf rfl rfl rfl ?_|refine bB rfl rfl rfl rfl ?_)|(with_reducible refine bE ?_;first|refine bC rfl rfl rfl rfl ?_|refine bG rfl rfl rfl ?_|refine bY rfl rfl rfl rfl ?_|refine bH hN ?_)|((first|(with_reducible first|((first|refine aW ?_|refine bI ?_|refine aX ?_|refine bJ ?_);intro K hK)|(refine aC ?_;intro X Y ae af)|refine aD ?_)|(with_reducible refine bh ?_;refine aN rfl rfl fun X Y ae af=>?_)|(with_reducible refine bE ?_;refine bD rfl rfl fun X Y ae af=>?_));simp (disch:=first|decide|omega|(simp only [List.length_cons,List.length_nil];omega)) only [go_sem,↓aj hN,am hN,reduceIte,reduceCtorEq,Nat.reduceAdd,Nat.reduceLT,Nat.reduceLeDiff,Nat.reduceEqDiff,Nat.reduceSub])|(with_reducible refine And.intro (fun h=>?_) (fun h=>?_) <;> try (exfalso;omega))|(with_reducible refine aV aE hN ?_)|(with_reducible refine bi aE hN ?_)|((first|refine bd (hcp) ?_ rfl (fun _=>rfl) ?_|refine bd (hp) ?_ rfl (fun _=>rfl) ?_|refine bd (hsh) ?_ rfl (fun _=>rfl) ?_|refine bd (hle3) ?_ rfl (fun _=>rfl) ?_|refine bd (hb4) ?_ rfl (fun _=>rfl) ?_|refine bd (hat) ?_ rfl (fun _=>rfl) ?_);focus ((repeat' (first|(with_reducible first|exact aA|refine ax ?_ ?_|exact bP _|refine a9 ?_|exact bc _|exact bA _ _|refine bz ?_|exact aZ _)|exact ba hN rfl rfl|(refine bw hN rfl ?_;first|exact aF _|exact aG _)|exact a8 rfl rfl rfl));done))|(with_reducible first|exact aA|refine ax ?_ ?_|exact bP _|refine a9 ?_|exact bc _|exact bA _ _|refine bz ?_|exact aZ _)|exact ba hN rfl rfl|(refine bw hN rfl ?_;first|exact aF _|exact aG _)|exact a8 rfl rfl rfl|(simp only [bt,List.map_nil])|(with_reducible refine bN ?_)|(with_reducible refine And.intro ?_ ?_)|(refine ah ?_;omega)|(exact aU hN (by decide))))
 (refine bM (fun (k : Nat)=>(tmL [(121,.c (.int .i64 k)),(120,.c (.int .i64 A.length)),(119,.sl (ν 8)),(6,.ad (ν 5) 0),(4,.ad (ν 2) 0),(3,.ad (ν 1) 0),(2,.ad (ν 0) 0)],hpL hp0 ν [.box [.c (.I g.ar.own),.c (.R g.ar.nxt),.c (.I g.prio)],stE s,.box [.c .nul,.c .nul,.c (.int .i64 0)],.arr 2 .yes (.I (im g.prio.length A (gi s.won) (s.at_.tmod 2) k)),.arr 2 .yes (.I (im g.prio.length A (gi s.region) (-1) k)),.box [.sl (ν 3),.sl (ν 4),.c (.int .i64 s.at_)],.dead,.dead,.arr 2 .yes (.I A)])) (fun (k : Nat)=>k ≤ A.length) (fun (k : Nat)=>A.length - k) ⟨0,?_,bj hX hN [] ?_ ?_⟩ ?_;(repeat' (first|(with_reducible first|exact clZ|refine bm ?_ ?_|refine bn ?_ ?_|rfl|refine suZ ?_)|refine bo rfl ?_ ?_|exact aJ hN _ rfl rfl rfl|exact aK hN _ rfl rfl rfl|exact ap hN _ rfl rfl rfl (Or.inr rfl)|(refine aL hN _ rfl rfl (by first|exact Or.inr rfl|exact Or.inl rfl) ?_;first|exact aF _|exact aG _)|refine aq hN rfl ?_|refine au hN rfl rfl ?_|exact ao hN _ rfl rfl|exact aw hN rfl rfl rfl rfl|(with_reducible first|refine stZ ?_|refine aI ?_)));(try (any_goals (first|(with_reducible rfl)|(refine ah ?_;omega)))))
 · rw [gx,← hlw];exact dg _
 · rw [gx,← hlr];exact dg _
 intro k hk
 have hpk:=hAb k
 have ht1:=io g.prio.length A (gi s.won) (s.at_.tmod 2) k
 have ht2:=io g.prio.length A (gi s.region) (-1) k
 rcases Nat.lt_or_ge k A.length with hkl|hkl
 · (repeat' (first|(with_reducible first|(apply hK;clear hK K)|refine stZ ?_|refine aQ rfl ?_|((first|apply ae|apply af);clear ae X af Y))|(with_reducible refine aT ?_;first|refine aR rfl ?_|refine aS rfl ?_)|(with_reducible refine bh ?_;first|refine aM rfl rfl rfl rfl ?_|refine bf rfl rfl rfl ?_|refine bB rfl rfl rfl rfl ?_)|(with_reducible refine bE ?_;first|refine bC rfl rfl rfl rfl ?_|refine bG rfl rfl rfl ?_|refine bY rfl rfl rfl rfl ?_|refine bH hN ?_)|((first|(with_reducible first|((first|refine aW ?_|refine bI ?_|refine aX ?_|refine bJ ?_);intro K hK)|(refine aC ?_;intro X Y ae af)|refine aD ?_)|(with_reducible refine bh ?_;refine aN rfl rfl fun X Y ae af=>?_)|(with_reducible refine bE ?_;refine bD rfl rfl fun X Y ae af=>?_));simp (disch:=first|decide|omega|(simp only [List.length_cons,List.length_nil];omega)) only [go_sem,↓aj hN,am hN,reduceIte,reduceCtorEq,Nat.reduceAdd,Nat.reduceLT,Nat.reduceLeDiff,Nat.reduceEqDiff,Nat.reduceSub])|(with_reducible refine And.intro (fun h=>?_) (fun h=>?_) <;> try (exfalso;omega))|(with_reducible refine aV aE hN ?_)|(with_reducible refine bi aE hN ?_)|(with_reducible refine And.intro ?_ ?_)|(refine ah ?_;omega)|(exact aU hN (by decide))))
   (refine ⟨k + 1,⟨?_,?_⟩,bj hX hN [] ?_ ?_⟩;(try any_goals dsimp only);(repeat' (first|(with_reducible first|exact clZ|refine bm ?_ ?_|refine bn ?_ ?_|rfl|refine suZ ?_)|refine bo rfl ?_ ?_|exact aJ hN _ rfl rfl rfl|exact aK hN _ rfl rfl rfl|exact ap hN _ rfl rfl rfl (Or.inr rfl)|(refine aL hN _ rfl rfl (by first|exact Or.inr rfl|exact Or.inl rfl) ?_;first|exact aF _|exact aG _)|refine aq hN rfl ?_|refine au hN rfl rfl ?_|exact ao hN _ rfl rfl|exact aw hN rfl rfl rfl rfl|(with_reducible first|refine stZ ?_|refine aI ?_)));(try (any_goals (first|(with_reducible rfl)|(refine ah ?_;omega)))))
   · exact gy (by omega) (by omega)
   · exact gy (by omega) (by omega)
 obtain rfl : k = A.length:=by omega
 have hw : im g.prio.length A (gi s.won) (s.at_.tmod 2) A.length = (dk g s).won:=ip (p:=dj g s) hAm fun v hv=>rfl
 have hr : im g.prio.length A (gi s.region) (-1) A.length = tab g.prio.length (r1W g s):=ip (p:=dj g s) hAm fun v hv=>rfl
 rw [hw,hr]
 (repeat' (first|(with_reducible first|(apply hK;clear hK K)|refine stZ ?_|refine aQ rfl ?_|((first|apply ae|apply af);clear ae X af Y))|(with_reducible refine aT ?_;first|refine aR rfl ?_|refine aS rfl ?_)|(with_reducible refine bh ?_;first|refine aM rfl rfl rfl rfl ?_|refine bf rfl rfl rfl ?_|refine bB rfl rfl rfl rfl ?_)|(with_reducible refine bE ?_;first|refine bC rfl rfl rfl rfl ?_|refine bG rfl rfl rfl ?_|refine bY rfl rfl rfl rfl ?_|refine bH hN ?_)|((first|(with_reducible first|((first|refine aW ?_|refine bI ?_|refine aX ?_|refine bJ ?_);intro K hK)|(refine aC ?_;intro X Y ae af)|refine aD ?_)|(with_reducible refine bh ?_;refine aN rfl rfl fun X Y ae af=>?_)|(with_reducible refine bE ?_;refine bD rfl rfl fun X Y ae af=>?_));simp (disch:=first|decide|omega|(simp only [List.length_cons,List.length_nil];omega)) only [go_sem,↓aj hN,am hN,reduceIte,reduceCtorEq,Nat.reduceAdd,Nat.reduceLT,Nat.reduceLeDiff,Nat.reduceEqDiff,Nat.reduceSub])|(with_reducible refine And.intro (fun h=>?_) (fun h=>?_) <;> try (exfalso;omega))|(with_reducible refine aV aE hN ?_)|(with_reducible refine bi aE hN ?_)|(with_reducible refine And.intro ?_ ?_)|(refine ah ?_;omega)|(exact aU hN (by decide))))
 (refine bM (fun (k : Nat)=>(tmL [(141,.c (.int .i64 k)),(140,.c (.int .i64 g.prio.length)),(139,.sl (ν 4)),(6,.ad (ν 5) 0),(4,.ad (ν 2) 0),(2,.ad (ν 0) 0)],hpL hp0 ν [.box [.c (.I g.ar.own),.c (.R g.ar.nxt),.c (.I g.prio)],.dead,.box [.c .nul,.c .nul,.c (.int .i64 0)],.arr 2 .yes (.I (dk g s).won),.arr 2 .yes (.I (tab g.prio.length fun v=>if v < k then (if 0 ≤ r1W g s v then gi g.prio v else r1W g s v) else r1W g s v)),.box [.sl (ν 3),.sl (ν 4),.c (.int .i64 (mxN (fun v=>0 ≤ r1W g s v) (gi g.prio) k))]])) (fun (k : Nat)=>k ≤ g.prio.length) (fun (k : Nat)=>g.prio.length - k) ⟨0,?_,bj hX hN [] ?_ ?_⟩ ?_;(repeat' (first|(with_reducible first|exact clZ|refine bm ?_ ?_|refine bn ?_ ?_|rfl|refine suZ ?_)|refine bo rfl ?_ ?_|exact aJ hN _ rfl rfl rfl|exact aK hN _ rfl rfl rfl|exact ap hN _ rfl rfl rfl (Or.inr rfl)|(refine aL hN _ rfl rfl (by first|exact Or.inr rfl|exact Or.inl rfl) ?_;first|exact aF _|exact aG _)|refine aq hN rfl ?_|refine au hN rfl rfl ?_|exact ao hN _ rfl rfl|exact aw hN rfl rfl rfl rfl|(with_reducible first|refine stZ ?_|refine aI ?_)));(try (any_goals (first|(with_reducible rfl)|(refine ah ?_;omega)))))
 · exact bp fun v _=>if_neg (Nat.not_lt_zero v)
 · rfl
 intro k hk
 have ht3:=bK g.prio.length fun v=>if v < k then (if 0 ≤ r1W g s v then gi g.prio v else r1W g s v) else r1W g s v
 rcases Nat.lt_or_ge k g.prio.length with hkl2|hkl2
 · (repeat' (first|(with_reducible first|(apply hK;clear hK K)|refine stZ ?_|refine aQ rfl ?_|((first|apply ae|apply af);clear ae X af Y))|(with_reducible refine aT ?_;first|refine aR rfl ?_|refine aS rfl ?_)|(with_reducible refine bh ?_;first|refine aM rfl rfl rfl rfl ?_|refine bf rfl rfl rfl ?_|refine bB rfl rfl rfl rfl ?_)|(with_reducible refine bE ?_;first|refine bC rfl rfl rfl rfl ?_|refine bG rfl rfl rfl ?_|refine bY rfl rfl rfl rfl ?_|refine bH hN ?_)|((first|(with_reducible first|((first|refine aW ?_|refine bI ?_|refine aX ?_|refine bJ ?_);intro K hK)|(refine aC ?_;intro X Y ae af)|refine aD ?_)|(with_reducible refine bh ?_;refine aN rfl rfl fun X Y ae af=>?_)|(with_reducible refine bE ?_;refine bD rfl rfl fun X Y ae af=>?_));simp (disch:=first|decide|omega|(simp only [List.length_cons,List.length_nil];omega)) only [go_sem,↓aj hN,am hN,reduceIte,reduceCtorEq,Nat.reduceAdd,Nat.reduceLT,Nat.reduceLeDiff,Nat.reduceEqDiff,Nat.reduceSub])|(with_reducible refine And.intro (fun h=>?_) (fun h=>?_) <;> try (exfalso;omega))|(with_reducible refine aV aE hN ?_)|(with_reducible refine bi aE hN ?_)|(with_reducible refine And.intro ?_ ?_)|(refine ah ?_;omega)|(exact aU hN (by decide))))
   · have h1:=h
     rw [if_neg (Nat.lt_irrefl k)] at h1
     (refine ⟨k + 1,⟨?_,?_⟩,bj hX hN [] ?_ ?_⟩;(try any_goals dsimp only);(repeat' (first|(with_reducible first|exact clZ|refine bm ?_ ?_|refine bn ?_ ?_|rfl|refine suZ ?_)|refine bo rfl ?_ ?_|exact aJ hN _ rfl rfl rfl|exact aK hN _ rfl rfl rfl|exact ap hN _ rfl rfl rfl (Or.inr rfl)|(refine aL hN _ rfl rfl (by first|exact Or.inr rfl|exact Or.inl rfl) ?_;first|exact aF _|exact aG _)|refine aq hN rfl ?_|refine au hN rfl rfl ?_|exact ao hN _ rfl rfl|exact aw hN rfl rfl rfl rfl|(with_reducible first|refine stZ ?_|refine aI ?_)));(try (any_goals (first|(with_reducible rfl)|(refine ah ?_;omega)))))
     · exact gE hkl2 (by rw [if_pos h1])
     · exact ud (p:=fun v=>0 ≤ r1W g s v) h1
   · have h1:=h
     rw [if_neg (Nat.lt_irrefl k)] at h1
     (refine ⟨k + 1,⟨?_,?_⟩,bj hX hN [] ?_ ?_⟩;(try any_goals dsimp only);(repeat' (first|(with_reducible first|exact clZ|refine bm ?_ ?_|refine bn ?_ ?_|rfl|refine suZ ?_)|refine bo rfl ?_ ?_|exact aJ hN _ rfl rfl rfl|exact aK hN _ rfl rfl rfl|exact ap hN _ rfl rfl rfl (Or.inr rfl)|(refine aL hN _ rfl rfl (by first|exact Or.inr rfl|exact Or.inl rfl) ?_;first|exact aF _|exact aG _)|refine aq hN rfl ?_|refine au hN rfl rfl ?_|exact ao hN _ rfl rfl|exact aw hN rfl rfl rfl rfl|(with_reducible first|refine stZ ?_|refine aI ?_)));(try (any_goals (first|(with_reducible rfl)|(refine ah ?_;omega)))))
     · exact dy (by rw [if_neg h1])
     · exact (eg (p:=fun v=>0 ≤ r1W g s v) h1).symm
 obtain rfl : k = g.prio.length:=by omega
 have hr3 : (tab g.prio.length fun v=>if v < g.prio.length then (if 0 ≤ r1W g s v then gi g.prio v else r1W g s v) else r1W g s v) = (dk g s).region:=bp fun v hv=>by
  rw [if_pos hv]
  by_cases h1 : 0 ≤ r1W g s v
  · rw [if_pos h1,if_pos ((nG hO hv).1 h1)]
  · rw [if_neg h1,if_neg fun h'=>h1 ((nG hO hv).2 h'),uf hg hO hv h1]
 rw [hr3,lu g.prio.length fun v hv=>nG hO hv]
 (repeat' (first|(with_reducible first|(apply hK;clear hK K)|refine stZ ?_|refine aQ rfl ?_|((first|apply ae|apply af);clear ae X af Y))|(with_reducible refine aT ?_;first|refine aR rfl ?_|refine aS rfl ?_)|(with_reducible refine bh ?_;first|refine aM rfl rfl rfl rfl ?_|refine bf rfl rfl rfl ?_|refine bB rfl rfl rfl rfl ?_)|(with_reducible refine bE ?_;first|refine bC rfl rfl rfl rfl ?_|refine bG rfl rfl rfl ?_|refine bY rfl rfl rfl rfl ?_|refine bH hN ?_)|((first|(with_reducible first|((first|refine aW ?_|refine bI ?_|refine aX ?_|refine bJ ?_);intro K hK)|(refine aC ?_;intro X Y ae af)|refine aD ?_)|(with_reducible refine bh ?_;refine aN rfl rfl fun X Y ae af=>?_)|(with_reducible refine bE ?_;refine bD rfl rfl fun X Y ae af=>?_));simp (disch:=first|decide|omega|(simp only [List.length_cons,List.length_nil];omega)) only [go_sem,↓aj hN,am hN,reduceIte,reduceCtorEq,Nat.reduceAdd,Nat.reduceLT,Nat.reduceLeDiff,Nat.reduceEqDiff,Nat.reduceSub])|(with_reducible refine And.intro (fun h=>?_) (fun h=>?_) <;> try (exfalso;omega))|(with_reducible refine aV aE hN ?_)|(with_reducible refine bi aE hN ?_)|(with_reducible refine And.intro ?_ ?_)|(refine ah ?_;omega)|(exact aU hN (by decide))))
 (refine dL hN [3,4] (by decide) (.inr rfl) (by first|exact cr rfl rfl|exact b8 hN rfl rfl rfl rfl|exact bR hN rfl rfl rfl rfl rfl|(simp (disch:=first|decide|omega|(simp only [List.length_cons,List.length_nil];omega)) only [bS,bV,bW,b7,go_sem,beq_self_eq_true,↓az,↓aj hN,am hN,reduceIte,reduceCtorEq,Nat.reduceAdd,Nat.reduceLT,Nat.reduceLeDiff,Nat.reduceEqDiff,Nat.reduceSub];rfl)|rfl) ?_ fun νs hνs=>?_;(repeat' (first|exact Gone.nil|(refine Gone.cons rfl rfl ?_ ?_)|(with_reducible refine cZ ?_)|(with_reducible refine cY ?_)|(with_reducible refine SVs.cons ?_ ?_)|(with_reducible exact SVs.nil)|(simp only [List.drop,List.take])|(simp (disch:=first|decide|omega) only [↓az,reduceIte,reduceCtorEq,Nat.reduceEqDiff])|(with_reducible exact fM _)|(with_reducible exact cW _)|(exact cX rfl rfl rfl)|(exact cx 0 (by simp) rfl rfl)|(exact cx 1 (by simp) rfl rfl)|(refine dK hN rfl (c7 hN (by decide)) ?_)|(with_reducible refine dJ ?_)|(with_reducible rfl)|(with_reducible refine fN ?_)|(with_reducible refine fO ?_)|(with_reducible refine fP ?_)|(with_reducible refine fo ?_)|(with_reducible refine fQ ?_)|(refine ah ?_;omega))))
 all_goals rfl
end Go.Proofs.Ytdkkhhfhdijfmaa
