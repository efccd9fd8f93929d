/-
  Priority promotion, the program: any step; the first stage.
-/
import Derived.Test.YtdkkhhfhdijfmaaZsP9
namespace Go.Proofs.Ytdkkhhfhdijfmaa
set_option linter.unusedVariables false
set_option linter.unusedSimpArgs false
open Go.RowKit
attribute [local irreducible] ay b9 Aw Le
theorem j6 (g : Pa) (hg : PaOk g) (s : St) (hO : StOk g s) (h0 : 0 ≤ s.at_) : ay Try.prog 37 [paA g,stA s] [.arr 2 .yes (.I (cL g s).1.won),.arr 2 .yes (.I (cL g s).1.region)] (fun ns=>.tup [.agg [.sl (ns.getD 0 0),.sl (ns.getD 1 0),.c (.int .i64 (cL g s).1.at_)],.c (.int .i64 (cL g s).2)]):=by
 unfold cL
 by_cases h1 : cQ g s
 · rw [if_neg (fun h'=>h' h1)]
   by_cases h2 : 0 ≤ upV g s
   · rw [if_pos h2];exact nF g hg s hO h0 h1 h2
   · rw [if_neg h2];exact pq g hg s hO h0 h1 h2
 · rw [if_pos h1];exact nE g hg s hO h0 h1
theorem pt (pr : List Int) (n : Nat) : ∀ k,k ≤ n → iS pr (tab n fun v=>(v : Int)) k = mxN (fun _=>True) (gi pr) k:=by
 intro k
 induction k with
 | zero => intro _; rfl
 | succ k ih =>
   intro h
   rw [dv trivial,← ih (by omega)]
   have e : gi (tab n fun v=>(v : Int)) k = (k : Int):=cI _ (by omega)
   show max (iS pr _ k) (gi pr (gi (tab n fun v=>(v : Int)) k).toNat) = _
   rw [e,Int.toNat_natCast]
theorem ly (g : Pa) (hg : PaOk g) : ay Try.prog 36 [paA g] [.arr 2 .yes (.I (dx g).won),.arr 2 .yes (.I (dx g).region)] (fun ns=>.agg [.sl (ns.getD 0 0),.sl (ns.getD 1 0),.c (.int .i64 (dx g).at_)]):=by
 have hl:=hg.len
 have hle:=hg.ar.le
 have hn:=qZ g.ar (by omega)
 have ha:=q8 g.ar hle
 have ht:=sm g (tab g.ar.own.length fun v=>(v : Int)) (by
  intro i hi
  rw [bK] at hi
  rw [cI _ hi]
  omega)
 rw [bK,← hl] at ht
 rw [← hl] at ha
 rw [← hl] at hn
 rw [pt _ _ _ (Nat.le_refl _)] at ht
 have hwn : noP g.prio.length = (dx g).won:=rfl
 rw [hwn] at hn
 (refine bv aE Try.func36 rfl rfl (by kernel_rfl) fun hp0 ν hX hN=>?_;simp only [co,Nat.reduceAdd])
 (repeat' (first|(with_reducible first|(apply hK;clear hK K)|refine stZ ?_|refine aQ rfl ?_|((first|apply ae|apply af);clear ae X af Y))|(with_reducible refine aT ?_;first|refine aR rfl ?_|refine aS rfl ?_)|(with_reducible refine bE ?_;refine bH hN ?_)|((with_reducible first|((first|refine aW ?_|refine bI ?_|refine aX ?_|refine bJ ?_);intro K hK)|(refine aC ?_;intro X Y ae af)|refine aD ?_);simp (disch:=first|decide|omega|(simp only [List.length_cons,List.length_nil];omega)) only [go_sem,↓aj hN,am hN,reduceIte,reduceCtorEq,Nat.reduceAdd,Nat.reduceLT,Nat.reduceLeDiff,Nat.reduceEqDiff,Nat.reduceSub])|(with_reducible refine And.intro (fun h=>?_) (fun h=>?_) <;> try (exfalso;omega))|(with_reducible refine aV aE hN ?_)|(with_reducible refine bi aE hN ?_)|((first|refine bd (hn) ?_ rfl (fun _=>rfl) ?_|refine bd (ha) ?_ rfl (fun _=>rfl) ?_|refine bd (ht) ?_ rfl (fun _=>rfl) ?_);focus ((repeat' (first|(with_reducible first|exact aA|refine ax ?_ ?_|exact bP _|refine a9 ?_|exact bc _|exact bA _ _|refine bz ?_|exact aZ _)|exact ba hN rfl rfl|(refine bw hN rfl ?_;first|exact aF _|exact aG _)|exact a8 rfl rfl rfl));done))|(with_reducible first|exact aA|refine ax ?_ ?_|exact bP _|refine a9 ?_|exact bc _|exact bA _ _|refine bz ?_|exact aZ _)|exact ba hN rfl rfl|(refine bw hN rfl ?_;first|exact aF _|exact aG _)|exact a8 rfl rfl rfl|(simp only [bt,List.map_nil])|(with_reducible refine bN ?_)|(with_reducible refine And.intro ?_ ?_)|(refine ah ?_;omega)|(exact aU hN (by decide))))
 (refine dL hN [2,4] (by decide) (.inr rfl) (by first|exact cr rfl rfl|exact b8 hN rfl rfl rfl rfl|exact bR hN rfl rfl rfl rfl rfl|(simp (disch:=first|decide|omega|(simp only [List.length_cons,List.length_nil];omega)) only [bS,bV,bW,b7,go_sem,beq_self_eq_true,↓az,↓aj hN,am hN,reduceIte,reduceCtorEq,Nat.reduceAdd,Nat.reduceLT,Nat.reduceLeDiff,Nat.reduceEqDiff,Nat.reduceSub];rfl)|rfl) ?_ fun νs hνs=>?_;(repeat' (first|exact Gone.nil|(refine Gone.cons rfl rfl ?_ ?_)|(with_reducible refine cZ ?_)|(with_reducible refine cY ?_)|(with_reducible refine SVs.cons ?_ ?_)|(with_reducible exact SVs.nil)|(simp only [List.drop,List.take])|(simp (disch:=first|decide|omega) only [↓az,reduceIte,reduceCtorEq,Nat.reduceEqDiff])|(with_reducible exact fM _)|(with_reducible exact cW _)|(exact cX rfl rfl rfl)|(exact cx 0 (by simp) rfl rfl)|(exact cx 1 (by simp) rfl rfl)|(refine dK hN rfl (c7 hN (by decide)) ?_)|(with_reducible refine dJ ?_)|(with_reducible rfl)|(with_reducible refine fN ?_)|(with_reducible refine fO ?_)|(with_reducible refine fP ?_)|(with_reducible refine fo ?_)|(with_reducible refine fQ ?_)|(refine ah ?_;omega))))
 all_goals rfl
end Go.Proofs.Ytdkkhhfhdijfmaa
