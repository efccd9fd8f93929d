/-
  CutEdge of the reference for all arguments.
-/
import Derived.Test.YtiadchinhofieaaZcXD
namespace Go.Proofs.Ytiadchinhofieaa
set_option linter.unusedVariables false
set_option linter.unusedSimpArgs false
open Go.RowKit
attribute [local irreducible] aq ci Aw Le
def fl (g : Pa) (v u : Int) : Prop:=PaOk g ∧ iM g.ar.own.length v ∧ u ∈ gr g.ar.nxt v.toNat ∧ ¬ (gr g.ar.nxt v.toNat).length = 1
noncomputable def ceN (g : Pa) (v u : Int) : Pa:=@ite _ (fl g v u) (Classical.propDecidable _) (cP g v.toNat u) ⟨⟨[],[]⟩,[]⟩
theorem lH {g : Pa} {v u : Int} (h : fl g v u) : ceN g v u = cP g v.toNat u:=if_pos h
theorem nL {g : Pa} {v u : Int} (h : ¬ fl g v u) : ceN g v u = ⟨⟨[],[]⟩,[]⟩:=if_neg h
theorem nM (g : Pa) (v u : Int) (h : ¬ fl g v u) : aq Try.prog 20 [paA g,.c (.int .i64 v),.c (.int .i64 u)] [] (fun _=>.tup [.agg [.c .nul,.c .nul,.c .nul],.c (.bool false)]):=by
 have h1:=jH g
 have h2:=oh g.ar v
 by_cases hg : PaOk g
 · rw [aH hg] at h1
   have hl:=hg.len
   have hln:=hg.ar.len
   have hle:=hg.ar.le
   by_cases hv : iM g.ar.own.length v
   · rw [aH hv] at h2
     obtain ⟨n,rfl⟩:=Int.eq_ofNat_of_zero_le hv.1
     have hn : n < g.prio.length:=by have:=hv.2;omega
     have h4:=g9 g hg n hn u (by
      by_cases hu : u ∈ gr g.ar.nxt n
      · refine .inr ?_
        by_cases h1 : (gr g.ar.nxt n).length = 1
        · exact h1
        · exact absurd ⟨hg,hv,hu,h1⟩ h
      · exact .inl hu)
     (refine bh aG Try.func20 rfl rfl (by kernel_rfl) fun hp0 ν hX hN=>?_;simp only [cx,Nat.reduceAdd])
     (repeat' (first|(with_reducible first|(apply hK;clear hK K)|refine stZ ?_|refine aM rfl ?_|((first|apply ae|apply af);clear ae X af Y))|(with_reducible refine aP ?_;first|refine aN rfl ?_|refine aO rfl ?_)|(with_reducible refine be ?_;first|refine aK rfl rfl rfl rfl ?_|refine bc rfl rfl rfl ?_|refine bp rfl rfl rfl rfl ?_)|((first|(with_reducible first|((first|refine aS ?_|refine aT ?_);intro K hK)|(refine az ?_;intro X Y ae af)|refine aA ?_)|(with_reducible refine be ?_;refine aL rfl rfl fun X Y ae af=>?_));simp (disch:=first|decide|omega|(simp only [List.length_cons,List.length_nil];omega)) only [go_sem,↓am hN,ao hN,reduceIte,reduceCtorEq,Nat.reduceAdd,Nat.reduceLT,Nat.reduceLeDiff,Nat.reduceEqDiff,Nat.reduceSub])|(with_reducible refine And.intro (fun h=>?_) (fun h=>?_) <;> try (exfalso;omega))|(with_reducible refine aR aG hN ?_)|(first|refine bJ hN (h1) ?_|refine bJ hN (h2) ?_)|(refine cK (h4) ?_ rfl rfl ?_;focus ((repeat' (first|(with_reducible first|exact aV|refine aJ ?_ ?_|exact cF _|refine bv ?_|exact bz _|exact bR _ _|refine bQ ?_|exact bt _)|exact bw hN rfl rfl|(refine bP hN rfl ?_;first|exact aZ _|exact a8 _)|exact bu rfl rfl rfl));done))|(with_reducible first|exact aV|refine aJ ?_ ?_|exact cF _|refine bv ?_|exact bz _|exact bR _ _|refine bQ ?_|exact bt _)|exact bw hN rfl rfl|(refine bP hN rfl ?_;first|exact aZ _|exact a8 _)|exact bu rfl rfl rfl|(simp only [ba,List.map_nil])|(with_reducible refine bo ?_)|(with_reducible refine And.intro ?_ ?_)|(refine ak ?_;omega)|(exact aQ hN (by decide))))
     (refine dC hN [] (by decide) (.inr rfl) (by first|exact b7 rfl rfl|exact bL hN rfl rfl rfl rfl|exact bF hN rfl rfl rfl rfl rfl|(simp (disch:=first|decide|omega|(simp only [List.length_cons,List.length_nil];omega)) only [bK,bS,bV,bY,go_sem,beq_self_eq_true,↓au,↓am hN,ao hN,reduceIte,reduceCtorEq,Nat.reduceAdd,Nat.reduceLT,Nat.reduceLeDiff,Nat.reduceEqDiff,Nat.reduceSub];rfl)|rfl) ?_ fun νs hνs=>?_;(repeat' (first|exact Gone.nil|(refine Gone.cons rfl rfl ?_ ?_)|(with_reducible refine cX ?_)|(with_reducible refine cW ?_)|(with_reducible refine SVs.cons ?_ ?_)|(with_reducible exact SVs.nil)|(simp only [List.drop,List.take])|(simp (disch:=first|decide|omega) only [↓au,reduceIte,reduceCtorEq,Nat.reduceEqDiff])|(with_reducible exact eY _)|(with_reducible exact cU _)|(exact cV rfl rfl rfl)|(exact dp 0 (by simp) rfl rfl)|(refine dB hN rfl (cY hN (by decide)) ?_)|(with_reducible refine dA ?_)|(with_reducible rfl)|(with_reducible refine eZ ?_)|(with_reducible refine e8 ?_)|(with_reducible refine e9 ?_)|(with_reducible refine eR ?_)|(with_reducible refine fa ?_)|(refine ak ?_;omega))))
     all_goals rfl
   · rw [ax hv] at h2
     (refine bh aG Try.func20 rfl rfl (by kernel_rfl) fun hp0 ν hX hN=>?_;simp only [cx,Nat.reduceAdd])
     (repeat' (first|(with_reducible first|(apply hK;clear hK K)|refine stZ ?_|refine aM rfl ?_|((first|apply ae|apply af);clear ae X af Y))|(with_reducible refine aP ?_;first|refine aN rfl ?_|refine aO rfl ?_)|(with_reducible refine be ?_;first|refine aK rfl rfl rfl rfl ?_|refine bc rfl rfl rfl ?_|refine bp rfl rfl rfl rfl ?_)|((first|(with_reducible first|((first|refine aS ?_|refine aT ?_);intro K hK)|(refine az ?_;intro X Y ae af)|refine aA ?_)|(with_reducible refine be ?_;refine aL rfl rfl fun X Y ae af=>?_));simp (disch:=first|decide|omega|(simp only [List.length_cons,List.length_nil];omega)) only [go_sem,↓am hN,ao hN,reduceIte,reduceCtorEq,Nat.reduceAdd,Nat.reduceLT,Nat.reduceLeDiff,Nat.reduceEqDiff,Nat.reduceSub])|(with_reducible refine And.intro (fun h=>?_) (fun h=>?_) <;> try (exfalso;omega))|(with_reducible refine aR aG hN ?_)|(first|refine bJ hN (h1) ?_|refine bJ hN (h2) ?_)|(simp only [ba,List.map_nil])|(with_reducible refine bo ?_)|(with_reducible refine And.intro ?_ ?_)|(refine ak ?_;omega)|(exact aQ hN (by decide))))
     (refine dC hN [] (by decide) (.inr rfl) (by first|exact b7 rfl rfl|exact bL hN rfl rfl rfl rfl|exact bF hN rfl rfl rfl rfl rfl|(simp (disch:=first|decide|omega|(simp only [List.length_cons,List.length_nil];omega)) only [bK,bS,bV,bY,go_sem,beq_self_eq_true,↓au,↓am hN,ao hN,reduceIte,reduceCtorEq,Nat.reduceAdd,Nat.reduceLT,Nat.reduceLeDiff,Nat.reduceEqDiff,Nat.reduceSub];rfl)|rfl) ?_ fun νs hνs=>?_;(repeat' (first|exact Gone.nil|(refine Gone.cons rfl rfl ?_ ?_)|(with_reducible refine cX ?_)|(with_reducible refine cW ?_)|(with_reducible refine SVs.cons ?_ ?_)|(with_reducible exact SVs.nil)|(simp only [List.drop,List.take])|(simp (disch:=first|decide|omega) only [↓au,reduceIte,reduceCtorEq,Nat.reduceEqDiff])|(with_reducible exact eY _)|(with_reducible exact cU _)|(exact cV rfl rfl rfl)|(exact dp 0 (by simp) rfl rfl)|(refine dB hN rfl (cY hN (by decide)) ?_)|(with_reducible refine dA ?_)|(with_reducible rfl)|(with_reducible refine eZ ?_)|(with_reducible refine e8 ?_)|(with_reducible refine e9 ?_)|(with_reducible refine eR ?_)|(with_reducible refine fa ?_)|(refine ak ?_;omega))))
     all_goals rfl
 · rw [ax hg] at h1
   (refine bh aG Try.func20 rfl rfl (by kernel_rfl) fun hp0 ν hX hN=>?_;simp only [cx,Nat.reduceAdd])
   (repeat' (first|(with_reducible first|(apply hK;clear hK K)|refine stZ ?_|refine aM rfl ?_|((first|apply ae|apply af);clear ae X af Y))|(with_reducible refine aP ?_;first|refine aN rfl ?_|refine aO rfl ?_)|(with_reducible refine be ?_;first|refine aK rfl rfl rfl rfl ?_|refine bc rfl rfl rfl ?_|refine bp rfl rfl rfl rfl ?_)|((first|(with_reducible first|((first|refine aS ?_|refine aT ?_);intro K hK)|(refine az ?_;intro X Y ae af)|refine aA ?_)|(with_reducible refine be ?_;refine aL rfl rfl fun X Y ae af=>?_));simp (disch:=first|decide|omega|(simp only [List.length_cons,List.length_nil];omega)) only [go_sem,↓am hN,ao hN,reduceIte,reduceCtorEq,Nat.reduceAdd,Nat.reduceLT,Nat.reduceLeDiff,Nat.reduceEqDiff,Nat.reduceSub])|(with_reducible refine And.intro (fun h=>?_) (fun h=>?_) <;> try (exfalso;omega))|(with_reducible refine aR aG hN ?_)|(refine bJ hN (h1) ?_)|(simp only [ba,List.map_nil])|(with_reducible refine bo ?_)|(with_reducible refine And.intro ?_ ?_)|(refine ak ?_;omega)|(exact aQ hN (by decide))))
   (refine dC hN [] (by decide) (.inr rfl) (by first|exact b7 rfl rfl|exact bL hN rfl rfl rfl rfl|exact bF hN rfl rfl rfl rfl rfl|(simp (disch:=first|decide|omega|(simp only [List.length_cons,List.length_nil];omega)) only [bK,bS,bV,bY,go_sem,beq_self_eq_true,↓au,↓am hN,ao hN,reduceIte,reduceCtorEq,Nat.reduceAdd,Nat.reduceLT,Nat.reduceLeDiff,Nat.reduceEqDiff,Nat.reduceSub];rfl)|rfl) ?_ fun νs hνs=>?_;(repeat' (first|exact Gone.nil|(refine Gone.cons rfl rfl ?_ ?_)|(with_reducible refine cX ?_)|(with_reducible refine cW ?_)|(with_reducible refine SVs.cons ?_ ?_)|(with_reducible exact SVs.nil)|(simp only [List.drop,List.take])|(simp (disch:=first|decide|omega) only [↓au,reduceIte,reduceCtorEq,Nat.reduceEqDiff])|(with_reducible exact eY _)|(with_reducible exact cU _)|(exact cV rfl rfl rfl)|(exact dp 0 (by simp) rfl rfl)|(refine dB hN rfl (cY hN (by decide)) ?_)|(with_reducible refine dA ?_)|(with_reducible rfl)|(with_reducible refine eZ ?_)|(with_reducible refine e8 ?_)|(with_reducible refine e9 ?_)|(with_reducible refine eR ?_)|(with_reducible refine fa ?_)|(refine ak ?_;omega))))
   all_goals rfl
end Go.Proofs.Ytiadchinhofieaa
namespace Go.Proofs.Ytiadchinhofieaa
set_option linter.unusedVariables false
set_option linter.unusedSimpArgs false
open Go.RowKit
attribute [local irreducible] aq ci Aw Le
theorem jU (g : Pa) (v u : Int) (h : ¬ fl g v u) : aq Try.prog 19 [paA g,.c (.int .i64 v),.c (.int .i64 u)] [] (fun _=>.tup [.agg [.c .nul,.c .nul,.c .nul],.c (.bool false)]):=by
 have h1:=gc g
 by_cases hg : PaOk g
 · rw [aH hg] at h1
   have hl:=hg.len
   have hln:=hg.ar.len
   by_cases hv : iM g.ar.own.length v ∧ u ∈ gr g.ar.nxt v.toNat
   · obtain ⟨n,rfl⟩:=Int.eq_ofNat_of_zero_le hv.1.1
     have hn : n < g.prio.length:=by have:=hv.1.2;omega
     have hu:=hv.2
     rw [Int.toNat_natCast] at hu
     refine nK g hg n hn u hu ?_
     by_cases h1 : (gr g.ar.nxt n).length = 1
     · exact h1
     · exact absurd ⟨hg,hv.1,hv.2,by rw [Int.toNat_natCast];exact h1⟩ h
   · have h3:=pC g.ar hg.ar v u hv
     (refine bh aG Try.func19 rfl rfl (by kernel_rfl) fun hp0 ν hX hN=>?_;simp only [cx,Nat.reduceAdd])
     (repeat' (first|(with_reducible first|(apply hK;clear hK K)|refine stZ ?_|refine aM rfl ?_|((first|apply ae|apply af);clear ae X af Y))|(with_reducible refine aP ?_;first|refine aN rfl ?_|refine aO rfl ?_)|(with_reducible refine be ?_;first|refine aK rfl rfl rfl rfl ?_|refine bc rfl rfl rfl ?_|refine bp rfl rfl rfl rfl ?_)|((first|(with_reducible first|((first|refine aS ?_|refine aT ?_);intro K hK)|(refine az ?_;intro X Y ae af)|refine aA ?_)|(with_reducible refine be ?_;refine aL rfl rfl fun X Y ae af=>?_));simp (disch:=first|decide|omega|(simp only [List.length_cons,List.length_nil];omega)) only [go_sem,↓am hN,ao hN,reduceIte,reduceCtorEq,Nat.reduceAdd,Nat.reduceLT,Nat.reduceLeDiff,Nat.reduceEqDiff,Nat.reduceSub])|(with_reducible refine And.intro (fun h=>?_) (fun h=>?_) <;> try (exfalso;omega))|(with_reducible refine aR aG hN ?_)|(first|refine bJ hN (h1) ?_|refine bJ hN (h3) ?_)|(simp only [ba,List.map_nil])|(with_reducible refine bo ?_)|(with_reducible refine And.intro ?_ ?_)|(refine ak ?_;omega)|(exact aQ hN (by decide))))
     (refine dC hN [] (by decide) (.inr rfl) (by first|exact b7 rfl rfl|exact bL hN rfl rfl rfl rfl|exact bF hN rfl rfl rfl rfl rfl|(simp (disch:=first|decide|omega|(simp only [List.length_cons,List.length_nil];omega)) only [bK,bS,bV,bY,go_sem,beq_self_eq_true,↓au,↓am hN,ao hN,reduceIte,reduceCtorEq,Nat.reduceAdd,Nat.reduceLT,Nat.reduceLeDiff,Nat.reduceEqDiff,Nat.reduceSub];rfl)|rfl) ?_ fun νs hνs=>?_;(repeat' (first|exact Gone.nil|(refine Gone.cons rfl rfl ?_ ?_)|(with_reducible refine cX ?_)|(with_reducible refine cW ?_)|(with_reducible refine SVs.cons ?_ ?_)|(with_reducible exact SVs.nil)|(simp only [List.drop,List.take])|(simp (disch:=first|decide|omega) only [↓au,reduceIte,reduceCtorEq,Nat.reduceEqDiff])|(with_reducible exact eY _)|(with_reducible exact cU _)|(exact cV rfl rfl rfl)|(exact dp 0 (by simp) rfl rfl)|(refine dB hN rfl (cY hN (by decide)) ?_)|(with_reducible refine dA ?_)|(with_reducible rfl)|(with_reducible refine eZ ?_)|(with_reducible refine e8 ?_)|(with_reducible refine e9 ?_)|(with_reducible refine eR ?_)|(with_reducible refine fa ?_)|(refine ak ?_;omega))))
     all_goals rfl
 · rw [ax hg] at h1
   (refine bh aG Try.func19 rfl rfl (by kernel_rfl) fun hp0 ν hX hN=>?_;simp only [cx,Nat.reduceAdd])
   (repeat' (first|(with_reducible first|(apply hK;clear hK K)|refine stZ ?_|refine aM rfl ?_|((first|apply ae|apply af);clear ae X af Y))|(with_reducible refine aP ?_;first|refine aN rfl ?_|refine aO rfl ?_)|(with_reducible refine be ?_;first|refine aK rfl rfl rfl rfl ?_|refine bc rfl rfl rfl ?_|refine bp rfl rfl rfl rfl ?_)|((first|(with_reducible first|((first|refine aS ?_|refine aT ?_);intro K hK)|(refine az ?_;intro X Y ae af)|refine aA ?_)|(with_reducible refine be ?_;refine aL rfl rfl fun X Y ae af=>?_));simp (disch:=first|decide|omega|(simp only [List.length_cons,List.length_nil];omega)) only [go_sem,↓am hN,ao hN,reduceIte,reduceCtorEq,Nat.reduceAdd,Nat.reduceLT,Nat.reduceLeDiff,Nat.reduceEqDiff,Nat.reduceSub])|(with_reducible refine And.intro (fun h=>?_) (fun h=>?_) <;> try (exfalso;omega))|(with_reducible refine aR aG hN ?_)|(refine bJ hN (h1) ?_)|(simp only [ba,List.map_nil])|(with_reducible refine bo ?_)|(with_reducible refine And.intro ?_ ?_)|(refine ak ?_;omega)|(exact aQ hN (by decide))))
   (refine dC hN [] (by decide) (.inr rfl) (by first|exact b7 rfl rfl|exact bL hN rfl rfl rfl rfl|exact bF hN rfl rfl rfl rfl rfl|(simp (disch:=first|decide|omega|(simp only [List.length_cons,List.length_nil];omega)) only [bK,bS,bV,bY,go_sem,beq_self_eq_true,↓au,↓am hN,ao hN,reduceIte,reduceCtorEq,Nat.reduceAdd,Nat.reduceLT,Nat.reduceLeDiff,Nat.reduceEqDiff,Nat.reduceSub];rfl)|rfl) ?_ fun νs hνs=>?_;(repeat' (first|exact Gone.nil|(refine Gone.cons rfl rfl ?_ ?_)|(with_reducible refine cX ?_)|(with_reducible refine cW ?_)|(with_reducible refine SVs.cons ?_ ?_)|(with_reducible exact SVs.nil)|(simp only [List.drop,List.take])|(simp (disch:=first|decide|omega) only [↓au,reduceIte,reduceCtorEq,Nat.reduceEqDiff])|(with_reducible exact eY _)|(with_reducible exact cU _)|(exact cV rfl rfl rfl)|(exact dp 0 (by simp) rfl rfl)|(refine dB hN rfl (cY hN (by decide)) ?_)|(with_reducible refine dA ?_)|(with_reducible rfl)|(with_reducible refine eZ ?_)|(with_reducible refine e8 ?_)|(with_reducible refine e9 ?_)|(with_reducible refine eR ?_)|(with_reducible refine fa ?_)|(refine ak ?_;omega))))
   all_goals rfl
end Go.Proofs.Ytiadchinhofieaa
