/-
  Priority promotion, the program: any step; the first stage.
-/
import Derived.Test.YtdkkhhfhdijfmaaZpP9
namespace Go.Proofs.Ytdkkhhfhdijfmaa
set_option linter.unusedVariables false
set_option linter.unusedSimpArgs false
open Go.RowKit
attribute [local irreducible] ay b8 Aw Le
theorem jX (g : Pa) (hg : PaOk g) (s : St) (hO : StOk g s) (h0 : 0 ≤ s.at_) : ay Try.prog 37 [paA g,stA s] [.arr 2 .yes (.I (cK g s).1.won),.arr 2 .yes (.I (cK g s).1.region)] (fun ns=>.tup [.agg [.sl (ns.getD 0 0),.sl (ns.getD 1 0),.c (.int .i64 (cK g s).1.at_)],.c (.int .i64 (cK g s).2)]):=by
 unfold cK
 by_cases h1 : cT g s
 · rw [if_neg (fun h'=>h' h1)]
   by_cases h2 : 0 ≤ upV g s
   · rw [if_pos h2];exact nt g hg s hO h0 h1 h2
   · rw [if_neg h2];exact pd g hg s hO h0 h1 h2
 · rw [if_pos h1];exact nr g hg s hO h0 h1
theorem pe (pr : List Int) (n : Nat) : ∀ k,k ≤ n → iK pr (tab n fun v=>(v : Int)) k = mxN (fun _=>True) (gi pr) k:=by
 intro k
 induction k with
 | zero => intro _; rfl
 | succ k ih =>
   intro h
   rw [dr trivial,← ih (by omega)]
   have e : gi (tab n fun v=>(v : Int)) k = (k : Int):=cI _ (by omega)
   show max (iK pr _ k) (gi pr (gi (tab n fun v=>(v : Int)) k).toNat) = _
   rw [e,Int.toNat_natCast]
theorem lk (g : Pa) (hg : PaOk g) : ay Try.prog 36 [paA g] [.arr 2 .yes (.I (dE g).won),.arr 2 .yes (.I (dE g).region)] (fun ns=>.agg [.sl (ns.getD 0 0),.sl (ns.getD 1 0),.c (.int .i64 (dE g).at_)]):=by
 have hl:=hg.len
 have hle:=hg.ar.le
 have hn:=qM g.ar (by omega)
 have ha:=qP g.ar hle
 have ht:=rO g (tab g.ar.own.length fun v=>(v : Int)) (by
  intro i hi
  rw [bQ] at hi
  rw [cI _ hi]
  omega)
 rw [bQ,← hl] at ht
 rw [← hl] at ha
 rw [← hl] at hn
 rw [pe _ _ _ (Nat.le_refl _)] at ht
 have hwn : noP g.prio.length = (dE g).won:=rfl
 rw [hwn] at hn
 (refine bv aE Try.func36 rfl rfl (by kernel_rfl) fun hp0 ν hX hN=>?_;simp only [cr,Nat.reduceAdd])
 (repeat' (first|(with_reducible first|(apply hK;clear hK K)|refine stZ ?_|refine aP rfl ?_|((first|apply ae|apply af);clear ae X af Y))|(with_reducible refine aS ?_;first|refine aQ rfl ?_|refine aR rfl ?_)|(with_reducible refine bE ?_;refine bH hN ?_)|((with_reducible first|((first|refine aV ?_|refine bI ?_|refine aW ?_|refine bJ ?_);intro K hK)|(refine aB ?_;intro X Y ae af)|refine aC ?_);simp (disch:=first|decide|omega|(simp only [List.length_cons,List.length_nil];omega)) only [go_sem,↓aj hN,ak hN,reduceIte,reduceCtorEq,Nat.reduceAdd,Nat.reduceLT,Nat.reduceLeDiff,Nat.reduceEqDiff,Nat.reduceSub])|(with_reducible refine And.intro (fun h=>?_) (fun h=>?_) <;> try (exfalso;omega))|(with_reducible refine aU aE hN ?_)|(with_reducible refine bh aE hN ?_)|((first|refine bc (hn) ?_ rfl (fun _=>rfl) ?_|refine bc (ha) ?_ rfl (fun _=>rfl) ?_|refine bc (ht) ?_ rfl (fun _=>rfl) ?_);focus ((repeat' (first|(with_reducible first|exact aA|refine ax ?_ ?_|exact bO _|refine a8 ?_|exact ba _|exact bA _ _|refine bz ?_|exact aY _)|exact a9 hN rfl rfl|(refine bw hN rfl ?_;first|exact aF _|exact aG _)|exact aZ rfl rfl rfl));done))|(with_reducible first|exact aA|refine ax ?_ ?_|exact bO _|refine a8 ?_|exact ba _|exact bA _ _|refine bz ?_|exact aY _)|exact a9 hN rfl rfl|(refine bw hN rfl ?_;first|exact aF _|exact aG _)|exact aZ rfl rfl rfl|(simp only [bt,List.map_nil])|(with_reducible refine bM ?_)|(with_reducible refine And.intro ?_ ?_)|(refine ah ?_;omega)|(exact aT hN (by decide))))
 (refine dz hN [2,4] (by decide) (.inr rfl) (by first|exact cg rfl rfl|exact bV hN rfl rfl rfl rfl|exact bP hN rfl rfl rfl rfl rfl|(simp (disch:=first|decide|omega|(simp only [List.length_cons,List.length_nil];omega)) only [bS,bU,bW,b7,go_sem,beq_self_eq_true,↓az,↓aj hN,ak hN,reduceIte,reduceCtorEq,Nat.reduceAdd,Nat.reduceLT,Nat.reduceLeDiff,Nat.reduceEqDiff,Nat.reduceSub];rfl)|rfl) ?_ fun νs hνs=>?_;(repeat' (first|exact Gone.nil|(refine Gone.cons rfl rfl ?_ ?_)|(with_reducible refine cR ?_)|(with_reducible refine cQ ?_)|(with_reducible refine SVs.cons ?_ ?_)|(with_reducible exact SVs.nil)|(simp only [List.drop,List.take])|(simp (disch:=first|decide|omega) only [↓az,reduceIte,reduceCtorEq,Nat.reduceEqDiff])|(with_reducible exact fi _)|(with_reducible exact cO _)|(exact cP rfl rfl rfl)|(exact cw 0 (by simp) rfl rfl)|(exact cw 1 (by simp) rfl rfl)|(refine dy hN rfl (cS hN (by decide)) ?_)|(with_reducible refine dx ?_)|(with_reducible rfl)|(with_reducible refine fj ?_)|(with_reducible refine fk ?_)|(with_reducible refine fl ?_)|(with_reducible refine fa ?_)|(with_reducible refine fm ?_)|(refine ah ?_;omega))))
 all_goals rfl
end Go.Proofs.Ytdkkhhfhdijfmaa
