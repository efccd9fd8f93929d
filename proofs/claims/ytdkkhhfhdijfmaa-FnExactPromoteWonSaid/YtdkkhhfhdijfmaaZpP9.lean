/-
  Priority promotion, the program: a step that wins; any step.
-/
import Derived.Test.YtdkkhhfhdijfmaaZpP8
namespace Go.Proofs.Ytdkkhhfhdijfmaa
set_option linter.unusedVariables false
set_option linter.unusedSimpArgs false
open Go.RowKit
attribute [local irreducible] ay b8 Aw Le
theorem lj {p q : Nat → Prop} {f : Nat → Int} : ∀ n,(∀ v,v < n → (p v ↔ q v)) → mxN p f n = mxN q f n
 | 0, _ => rfl
 | n + 1, h => by
   have ih:=lj (p:=p) (q:=q) (f:=f) n fun v hv=>h v (by omega)
   by_cases hp : p n
   · rw [dr hp,dr ((h n (by omega)).1 hp),ih]
   · rw [eb hp,eb (fun hq=>hp ((h n (by omega)).2 hq)),ih]
theorem tL {p : Nat → Prop} {f : Nat → Int} {k : Nat} (h : p k) : (if mxN p f k < f k then f k else mxN p f k) = mxN p f (k + 1):=by
 rw [dr h]
 split <;> omega
noncomputable def r1W (g : Pa) (s : St) (v : Nat) : Int:=@ite Int (dg g s v) (Classical.propDecidable _) (-1) (gi s.region v)
theorem ny {g : Pa} {s : St} (hO : StOk g s) {v : Nat} (hv : v < g.prio.length) : 0 ≤ r1W g s v ↔ Blw g s 40 v ∧ ¬ dg g s v:=by
 unfold r1W
 by_cases h : dg g s v
 · rw [if_pos h];exact ⟨fun h'=>absurd h' (by decide),fun h'=>absurd h h'.2⟩
 · rw [if_neg h]
   exact ⟨fun h'=>⟨⟨hv,h',(hO.opn hv h').2.2⟩,h⟩,fun h'=>h'.1.2.1⟩
theorem tM {g : Pa} (hg : PaOk g) {s : St} (hO : StOk g s) {v : Nat} (hv : v < g.prio.length) (h : ¬ 0 ≤ r1W g s v) : r1W g s v = -1:=by
 unfold r1W at h ⊢
 by_cases hA : dg g s v
 · rw [if_pos hA]
 · rw [if_neg hA] at h ⊢
   rcases hO.reg v hv with h1|h1
   · exact absurd (Int.le_trans (hg.prio v hv).1 h1.2.1) h
   · exact h1.2
set_option maxHeartbeats 2000000 in
theorem pd (g : Pa) (hg : PaOk g) (s : St) (hO : StOk g s) (h0 : 0 ≤ s.at_) (hn : cT g s) (hu : ¬ 0 ≤ upV g s) : ay Try.prog 37 [paA g,stA s] [.arr 2 .yes (.I (dh g s).won),.arr 2 .yes (.I (dh g s).region)] (fun ns=>.tup [.agg [.sl (ns.getD 0 0),.sl (ns.getD 1 0),.c (.int .i64 (dh g s).at_)],.c (.int .i64 3)]):=by
 have hl:=hg.len
 have hle:=hg.ar.le
 have hlr:=hO.lr
 have hlw:=hO.lw
 have ha : s.at_ ≤ 40:=by rcases hO.at' with h1|h1 <;> omega
 have hp:=ee g hg s hO h0
 have hps:=ef g s
 have hpl:=ck hps (by omega)
 have hsh:=jI g hg s hO h0
 rw [bp hn] at hsh
 have hcp:=fO s (by omega) (by omega)
 have hle3:=iT g hg s hO h0
 have hb4:=eN s 40 (by omega)
 have hbs:=ec hO 40
 have hbl2:=ck hbs (by omega)
 have hat:=ks g hg (s.at_.tmod 2) (eM s 40) (cY g s) hbs hps
 have he : tw g (s.at_.tmod 2) (eM s 40) (cY g s) = lst (dg g s) g.prio.length:=j5 fun v hv=>PG.attr_congr (fun u=>dK hO _ u) (fun u hu'=>ig ((dK hO _ u).1 hu').1) v
 rw [he] at hat
 have hAs:=gG (dg g s) g.prio.length
 have hAm : ∀ v,v < g.prio.length → ((v : Int) ∈ lst (dg g s) g.prio.length ↔ dg g s v):=fun v hv=>by
  rw [fR]
  exact ⟨fun ⟨u,_,h2,h3⟩=>by
   have : u = v:=by omega
   subst this;exact h2,fun h=>⟨v,hv,h,rfl⟩⟩
 have hAb:=hAs.bnd
 have hAl:=ck hAs (by omega)
 generalize lst (dg g s) g.prio.length = A at *
 (refine bv aE Try.func37 rfl rfl (by kernel_rfl) fun hp0 ν hX hN=>?_;simp only [cr,Nat.reduceAdd])
 (repeat' (first|(with_reducible first|(apply hK;clear hK K)|refine stZ ?_|refine aP rfl ?_|((first|apply ae|apply af);clear ae X af Y))|(with_reducible refine aS ?_;first|refine aQ rfl ?_|refine aR rfl ?_)|(with_reducible refine bg ?_;first|refine aM rfl rfl rfl rfl ?_|refine bf rfl rfl rfl ?_|refine bB rfl rfl rfl rfl ?_)|(with_reducible refine bE ?_;first|refine bC rfl rfl rfl rfl ?_|refine bG rfl rfl rfl ?_|refine bY rfl rfl rfl rfl ?_|refine bH hN ?_)|((first|(with_reducible first|((first|refine aV ?_|refine bI ?_|refine aW ?_|refine bJ ?_);intro K hK)|(refine aB ?_;intro X Y ae af)|refine aC ?_)|(with_reducible refine bg ?_;refine aN rfl rfl fun X Y ae af=>?_)|(with_reducible refine bE ?_;refine bD rfl rfl fun X Y ae af=>?_));simp (disch:=first|decide|omega|(simp only [List.length_cons,List.length_nil];omega)) only [go_sem,↓aj hN,ak hN,reduceIte,reduceCtorEq,Nat.reduceAdd,Nat.reduceLT,Nat.reduceLeDiff,Nat.reduceEqDiff,Nat.reduceSub])|(with_reducible refine And.intro (fun h=>?_) (fun h=>?_) <;> try (exfalso;omega))|(with_reducible refine aU aE hN ?_)|(with_reducible refine bh aE hN ?_)|((first|refine bc (hcp) ?_ rfl (fun _=>rfl) ?_|refine bc (hp) ?_ rfl (fun _=>rfl) ?_|refine bc (hsh) ?_ rfl (fun _=>rfl) ?_|refine bc (hle3) ?_ rfl (fun _=>rfl) ?_|refine bc (hb4) ?_ rfl (fun _=>rfl) ?_|refine bc (hat) ?_ rfl (fun _=>rfl) ?_);focus ((repeat' (first|(with_reducible first|exact aA|refine ax ?_ ?_|exact bO _|refine a8 ?_|exact ba _|exact bA _ _|refine bz ?_|exact aY _)|exact a9 hN rfl rfl|(refine bw hN rfl ?_;first|exact aF _|exact aG _)|exact aZ rfl rfl rfl));done))|(with_reducible first|exact aA|refine ax ?_ ?_|exact bO _|refine a8 ?_|exact ba _|exact bA _ _|refine bz ?_|exact aY _)|exact a9 hN rfl rfl|(refine bw hN rfl ?_;first|exact aF _|exact aG _)|exact aZ rfl rfl rfl|(simp only [bt,List.map_nil])|(with_reducible refine bM ?_)|(with_reducible refine And.intro ?_ ?_)|(refine ah ?_;omega)|(exact aT hN (by decide))))
 (refine bL (fun (k : Nat)=>(tmL [(121,.c (.int .i64 k)),(120,.c (.int .i64 A.length)),(119,.sl (ν 8)),(6,.ad (ν 5) 0),(4,.ad (ν 2) 0),(3,.ad (ν 1) 0),(2,.ad (ν 0) 0)],hpL hp0 ν [.box [.c (.I g.ar.own),.c (.R g.ar.nxt),.c (.I g.prio)],stE s,.box [.c .nul,.c .nul,.c (.int .i64 0)],.arr 2 .yes (.I (ia g.prio.length A (gi s.won) (s.at_.tmod 2) k)),.arr 2 .yes (.I (ia g.prio.length A (gi s.region) (-1) k)),.box [.sl (ν 3),.sl (ν 4),.c (.int .i64 s.at_)],.dead,.dead,.arr 2 .yes (.I A)])) (fun (k : Nat)=>k ≤ A.length) (fun (k : Nat)=>A.length - k) ⟨0,?_,bi hX hN [] ?_ ?_⟩ ?_;(repeat' (first|(with_reducible first|exact clZ|refine bj ?_ ?_|refine bm ?_ ?_|rfl|refine suZ ?_)|refine bn rfl ?_ ?_|exact aI hN _ rfl rfl rfl|exact aJ hN _ rfl rfl rfl|exact ap hN _ rfl rfl rfl (Or.inr rfl)|(refine aK hN _ rfl rfl (by first|exact Or.inr rfl|exact Or.inl rfl) ?_;first|exact aF _|exact aG _)|refine aq hN rfl ?_|refine au hN rfl rfl ?_|exact ao hN _ rfl rfl|exact aw hN rfl rfl rfl rfl|(with_reducible first|refine stZ ?_|refine aH ?_)));(try (any_goals (first|(with_reducible rfl)|(refine ah ?_;omega)))))
 · rw [gm,← hlw];exact dd _
 · rw [gm,← hlr];exact dd _
 intro k hk
 have hpk:=hAb k
 have ht1:=ib g.prio.length A (gi s.won) (s.at_.tmod 2) k
 have ht2:=ib g.prio.length A (gi s.region) (-1) k
 rcases Nat.lt_or_ge k A.length with hkl|hkl
 · (repeat' (first|(with_reducible first|(apply hK;clear hK K)|refine stZ ?_|refine aP rfl ?_|((first|apply ae|apply af);clear ae X af Y))|(with_reducible refine aS ?_;first|refine aQ rfl ?_|refine aR rfl ?_)|(with_reducible refine bg ?_;first|refine aM rfl rfl rfl rfl ?_|refine bf rfl rfl rfl ?_|refine bB rfl rfl rfl rfl ?_)|(with_reducible refine bE ?_;first|refine bC rfl rfl rfl rfl ?_|refine bG rfl rfl rfl ?_|refine bY rfl rfl rfl rfl ?_|refine bH hN ?_)|((first|(with_reducible first|((first|refine aV ?_|refine bI ?_|refine aW ?_|refine bJ ?_);intro K hK)|(refine aB ?_;intro X Y ae af)|refine aC ?_)|(with_reducible refine bg ?_;refine aN rfl rfl fun X Y ae af=>?_)|(with_reducible refine bE ?_;refine bD rfl rfl fun X Y ae af=>?_));simp (disch:=first|decide|omega|(simp only [List.length_cons,List.length_nil];omega)) only [go_sem,↓aj hN,ak hN,reduceIte,reduceCtorEq,Nat.reduceAdd,Nat.reduceLT,Nat.reduceLeDiff,Nat.reduceEqDiff,Nat.reduceSub])|(with_reducible refine And.intro (fun h=>?_) (fun h=>?_) <;> try (exfalso;omega))|(with_reducible refine aU aE hN ?_)|(with_reducible refine bh aE hN ?_)|(with_reducible refine And.intro ?_ ?_)|(refine ah ?_;omega)|(exact aT hN (by decide))))
   (refine ⟨k + 1,⟨?_,?_⟩,bi hX hN [] ?_ ?_⟩;(try any_goals dsimp only);(repeat' (first|(with_reducible first|exact clZ|refine bj ?_ ?_|refine bm ?_ ?_|rfl|refine suZ ?_)|refine bn rfl ?_ ?_|exact aI hN _ rfl rfl rfl|exact aJ hN _ rfl rfl rfl|exact ap hN _ rfl rfl rfl (Or.inr rfl)|(refine aK hN _ rfl rfl (by first|exact Or.inr rfl|exact Or.inl rfl) ?_;first|exact aF _|exact aG _)|refine aq hN rfl ?_|refine au hN rfl rfl ?_|exact ao hN _ rfl rfl|exact aw hN rfl rfl rfl rfl|(with_reducible first|refine stZ ?_|refine aH ?_)));(try (any_goals (first|(with_reducible rfl)|(refine ah ?_;omega)))))
   · exact gn (by omega) (by omega)
   · exact gn (by omega) (by omega)
 obtain rfl : k = A.length:=by omega
 have hw : ia g.prio.length A (gi s.won) (s.at_.tmod 2) A.length = (dh g s).won:=ic (p:=dg g s) hAm fun v hv=>rfl
 have hr : ia g.prio.length A (gi s.region) (-1) A.length = tab g.prio.length (r1W g s):=ic (p:=dg g s) hAm fun v hv=>rfl
 rw [hw,hr]
 (repeat' (first|(with_reducible first|(apply hK;clear hK K)|refine stZ ?_|refine aP rfl ?_|((first|apply ae|apply af);clear ae X af Y))|(with_reducible refine aS ?_;first|refine aQ rfl ?_|refine aR rfl ?_)|(with_reducible refine bg ?_;first|refine aM rfl rfl rfl rfl ?_|refine bf rfl rfl rfl ?_|refine bB rfl rfl rfl rfl ?_)|(with_reducible refine bE ?_;first|refine bC rfl rfl rfl rfl ?_|refine bG rfl rfl rfl ?_|refine bY rfl rfl rfl rfl ?_|refine bH hN ?_)|((first|(with_reducible first|((first|refine aV ?_|refine bI ?_|refine aW ?_|refine bJ ?_);intro K hK)|(refine aB ?_;intro X Y ae af)|refine aC ?_)|(with_reducible refine bg ?_;refine aN rfl rfl fun X Y ae af=>?_)|(with_reducible refine bE ?_;refine bD rfl rfl fun X Y ae af=>?_));simp (disch:=first|decide|omega|(simp only [List.length_cons,List.length_nil];omega)) only [go_sem,↓aj hN,ak hN,reduceIte,reduceCtorEq,Nat.reduceAdd,Nat.reduceLT,Nat.reduceLeDiff,Nat.reduceEqDiff,Nat.reduceSub])|(with_reducible refine And.intro (fun h=>?_) (fun h=>?_) <;> try (exfalso;omega))|(with_reducible refine aU aE hN ?_)|(with_reducible refine bh aE hN ?_)|(with_reducible refine And.intro ?_ ?_)|(refine ah ?_;omega)|(exact aT hN (by decide))))
 (refine bL (fun (k : Nat)=>(tmL [(141,.c (.int .i64 k)),(140,.c (.int .i64 g.prio.length)),(139,.sl (ν 4)),(6,.ad (ν 5) 0),(4,.ad (ν 2) 0),(2,.ad (ν 0) 0)],hpL hp0 ν [.box [.c (.I g.ar.own),.c (.R g.ar.nxt),.c (.I g.prio)],.dead,.box [.c .nul,.c .nul,.c (.int .i64 0)],.arr 2 .yes (.I (dh g s).won),.arr 2 .yes (.I (tab g.prio.length fun v=>if v < k then (if 0 ≤ r1W g s v then gi g.prio v else r1W g s v) else r1W g s v)),.box [.sl (ν 3),.sl (ν 4),.c (.int .i64 (mxN (fun v=>0 ≤ r1W g s v) (gi g.prio) k))]])) (fun (k : Nat)=>k ≤ g.prio.length) (fun (k : Nat)=>g.prio.length - k) ⟨0,?_,bi hX hN [] ?_ ?_⟩ ?_;(repeat' (first|(with_reducible first|exact clZ|refine bj ?_ ?_|refine bm ?_ ?_|rfl|refine suZ ?_)|refine bn rfl ?_ ?_|exact aI hN _ rfl rfl rfl|exact aJ hN _ rfl rfl rfl|exact ap hN _ rfl rfl rfl (Or.inr rfl)|(refine aK hN _ rfl rfl (by first|exact Or.inr rfl|exact Or.inl rfl) ?_;first|exact aF _|exact aG _)|refine aq hN rfl ?_|refine au hN rfl rfl ?_|exact ao hN _ rfl rfl|exact aw hN rfl rfl rfl rfl|(with_reducible first|refine stZ ?_|refine aH ?_)));(try (any_goals (first|(with_reducible rfl)|(refine ah ?_;omega)))))
 · exact bo fun v _=>if_neg (Nat.not_lt_zero v)
 · rfl
 intro k hk
 have ht3:=bQ g.prio.length fun v=>if v < k then (if 0 ≤ r1W g s v then gi g.prio v else r1W g s v) else r1W g s v
 rcases Nat.lt_or_ge k g.prio.length with hkl2|hkl2
 · (repeat' (first|(with_reducible first|(apply hK;clear hK K)|refine stZ ?_|refine aP rfl ?_|((first|apply ae|apply af);clear ae X af Y))|(with_reducible refine aS ?_;first|refine aQ rfl ?_|refine aR rfl ?_)|(with_reducible refine bg ?_;first|refine aM rfl rfl rfl rfl ?_|refine bf rfl rfl rfl ?_|refine bB rfl rfl rfl rfl ?_)|(with_reducible refine bE ?_;first|refine bC rfl rfl rfl rfl ?_|refine bG rfl rfl rfl ?_|refine bY rfl rfl rfl rfl ?_|refine bH hN ?_)|((first|(with_reducible first|((first|refine aV ?_|refine bI ?_|refine aW ?_|refine bJ ?_);intro K hK)|(refine aB ?_;intro X Y ae af)|refine aC ?_)|(with_reducible refine bg ?_;refine aN rfl rfl fun X Y ae af=>?_)|(with_reducible refine bE ?_;refine bD rfl rfl fun X Y ae af=>?_));simp (disch:=first|decide|omega|(simp only [List.length_cons,List.length_nil];omega)) only [go_sem,↓aj hN,ak hN,reduceIte,reduceCtorEq,Nat.reduceAdd,Nat.reduceLT,Nat.reduceLeDiff,Nat.reduceEqDiff,Nat.reduceSub])|(with_reducible refine And.intro (fun h=>?_) (fun h=>?_) <;> try (exfalso;omega))|(with_reducible refine aU aE hN ?_)|(with_reducible refine bh aE hN ?_)|(with_reducible refine And.intro ?_ ?_)|(refine ah ?_;omega)|(exact aT hN (by decide))))
   · have h1:=h
     rw [if_neg (Nat.lt_irrefl k)] at h1
     (refine ⟨k + 1,⟨?_,?_⟩,bi hX hN [] ?_ ?_⟩;(try any_goals dsimp only);(repeat' (first|(with_reducible first|exact clZ|refine bj ?_ ?_|refine bm ?_ ?_|rfl|refine suZ ?_)|refine bn rfl ?_ ?_|exact aI hN _ rfl rfl rfl|exact aJ hN _ rfl rfl rfl|exact ap hN _ rfl rfl rfl (Or.inr rfl)|(refine aK hN _ rfl rfl (by first|exact Or.inr rfl|exact Or.inl rfl) ?_;first|exact aF _|exact aG _)|refine aq hN rfl ?_|refine au hN rfl rfl ?_|exact ao hN _ rfl rfl|exact aw hN rfl rfl rfl rfl|(with_reducible first|refine stZ ?_|refine aH ?_)));(try (any_goals (first|(with_reducible rfl)|(refine ah ?_;omega)))))
     · exact gx hkl2 (by rw [if_pos h1])
     · exact tL (p:=fun v=>0 ≤ r1W g s v) h1
   · have h1:=h
     rw [if_neg (Nat.lt_irrefl k)] at h1
     (refine ⟨k + 1,⟨?_,?_⟩,bi hX hN [] ?_ ?_⟩;(try any_goals dsimp only);(repeat' (first|(with_reducible first|exact clZ|refine bj ?_ ?_|refine bm ?_ ?_|rfl|refine suZ ?_)|refine bn rfl ?_ ?_|exact aI hN _ rfl rfl rfl|exact aJ hN _ rfl rfl rfl|exact ap hN _ rfl rfl rfl (Or.inr rfl)|(refine aK hN _ rfl rfl (by first|exact Or.inr rfl|exact Or.inl rfl) ?_;first|exact aF _|exact aG _)|refine aq hN rfl ?_|refine au hN rfl rfl ?_|exact ao hN _ rfl rfl|exact aw hN rfl rfl rfl rfl|(with_reducible first|refine stZ ?_|refine aH ?_)));(try (any_goals (first|(with_reducible rfl)|(refine ah ?_;omega)))))
     · exact du (by rw [if_neg h1])
     · exact (eb (p:=fun v=>0 ≤ r1W g s v) h1).symm
 obtain rfl : k = g.prio.length:=by omega
 have hr3 : (tab g.prio.length fun v=>if v < g.prio.length then (if 0 ≤ r1W g s v then gi g.prio v else r1W g s v) else r1W g s v) = (dh g s).region:=bo fun v hv=>by
  rw [if_pos hv]
  by_cases h1 : 0 ≤ r1W g s v
  · rw [if_pos h1,if_pos ((ny hO hv).1 h1)]
  · rw [if_neg h1,if_neg fun h'=>h1 ((ny hO hv).2 h'),tM hg hO hv h1]
 rw [hr3,lj g.prio.length fun v hv=>ny hO hv]
 (repeat' (first|(with_reducible first|(apply hK;clear hK K)|refine stZ ?_|refine aP rfl ?_|((first|apply ae|apply af);clear ae X af Y))|(with_reducible refine aS ?_;first|refine aQ rfl ?_|refine aR rfl ?_)|(with_reducible refine bg ?_;first|refine aM rfl rfl rfl rfl ?_|refine bf rfl rfl rfl ?_|refine bB rfl rfl rfl rfl ?_)|(with_reducible refine bE ?_;first|refine bC rfl rfl rfl rfl ?_|refine bG rfl rfl rfl ?_|refine bY rfl rfl rfl rfl ?_|refine bH hN ?_)|((first|(with_reducible first|((first|refine aV ?_|refine bI ?_|refine aW ?_|refine bJ ?_);intro K hK)|(refine aB ?_;intro X Y ae af)|refine aC ?_)|(with_reducible refine bg ?_;refine aN rfl rfl fun X Y ae af=>?_)|(with_reducible refine bE ?_;refine bD rfl rfl fun X Y ae af=>?_));simp (disch:=first|decide|omega|(simp only [List.length_cons,List.length_nil];omega)) only [go_sem,↓aj hN,ak hN,reduceIte,reduceCtorEq,Nat.reduceAdd,Nat.reduceLT,Nat.reduceLeDiff,Nat.reduceEqDiff,Nat.reduceSub])|(with_reducible refine And.intro (fun h=>?_) (fun h=>?_) <;> try (exfalso;omega))|(with_reducible refine aU aE hN ?_)|(with_reducible refine bh aE hN ?_)|(with_reducible refine And.intro ?_ ?_)|(refine ah ?_;omega)|(exact aT hN (by decide))))
 (refine dz hN [3,4] (by decide) (.inr rfl) (by first|exact cg rfl rfl|exact bV hN rfl rfl rfl rfl|exact bP hN rfl rfl rfl rfl rfl|(simp (disch:=first|decide|omega|(simp only [List.length_cons,List.length_nil];omega)) only [bS,bU,bW,b7,go_sem,beq_self_eq_true,↓az,↓aj hN,ak hN,reduceIte,reduceCtorEq,Nat.reduceAdd,Nat.reduceLT,Nat.reduceLeDiff,Nat.reduceEqDiff,Nat.reduceSub];rfl)|rfl) ?_ fun νs hνs=>?_;(repeat' (first|exact Gone.nil|(refine Gone.cons rfl rfl ?_ ?_)|(with_reducible refine cR ?_)|(with_reducible refine cQ ?_)|(with_reducible refine SVs.cons ?_ ?_)|(with_reducible exact SVs.nil)|(simp only [List.drop,List.take])|(simp (disch:=first|decide|omega) only [↓az,reduceIte,reduceCtorEq,Nat.reduceEqDiff])|(with_reducible exact fi _)|(with_reducible exact cO _)|(exact cP rfl rfl rfl)|(exact cw 0 (by simp) rfl rfl)|(exact cw 1 (by simp) rfl rfl)|(refine dy hN rfl (cS hN (by decide)) ?_)|(with_reducible refine dx ?_)|(with_reducible rfl)|(with_reducible refine fj ?_)|(with_reducible refine fk ?_)|(with_reducible refine fl ?_)|(with_reducible refine fa ?_)|(with_reducible refine fm ?_)|(refine ah ?_;omega))))
 all_goals rfl
end Go.Proofs.Ytdkkhhfhdijfmaa
