/-
  The winners of a whole game, on both sides.
-/
import Derived.Test.YtiadchinhofieaaGreatZfE12
import Derived.Test.YtiadchinhofieaaGreatZfG3
namespace Go.Proofs.YtiadchinhofieaaGreat
set_option linter.unusedVariables false
set_option linter.unusedSimpArgs false
open Go.RowKit
attribute [local irreducible] aO ck Aw Le
theorem nG (g : Pa) (hg : PaOk g) : aO Tryz.prog 47 [paA g] [.arr 2 .yes (.I (bL g))] (fun ns=>.sl (ns.getD 0 0)):=by
 have hl:=hg.len
 have hle:=hg.ar.le
 have hP : (fun v=>gb (cJ g.prio.length fun _=>true) v = true) = ja g:=funext fun v=>propext (by
  rcases Nat.lt_or_ge v g.prio.length with h|h
  · rw [di _ h];exact ⟨fun _=>h,fun _=>rfl⟩
  · refine ⟨fun h'=>?_,fun h'=>?_⟩
    · have:=jz h';rw [cT] at this;omega
    · have : v < g.prio.length:=h';omega)
 have hw:=rF (dE g) g.prio.length (kH hg) _ (cJ g.prio.length fun _=>true) (cT _ _) (Nat.lt_succ_self _) (by rw [hP];exact jY hg)
 rw [hP] at hw
 clear hP
 change aO _ _ _ [.arr _ _ (.B (mks g.prio.length (PG.Won (pgP g) 0 (ja g))))] _ at hw
 have hal:=wK g.prio.length (by omega)
 have hend : (tab g.prio.length fun v=>1 - (if gb (mks g.prio.length (PG.Won (pgP g) 0 (ja g))) v = true then (1 : Int) else 0)) = bL g:=by
  refine cx fun v hv=>?_
  rw [jO _ hv]
  split <;> rfl
 have hwl : (mks g.prio.length (PG.Won (pgP g) 0 (ja g))).length = g.prio.length:=iy _ _
 generalize mks g.prio.length (PG.Won (pgP g) 0 (ja g)) = win at *
 generalize (cJ g.prio.length fun _=>true) = al at *
 (refine bj ap Tryz.func47 rfl rfl (by kernel_rfl) fun hp0 ν hX hN=>?_;simp only [bU,Nat.reduceAdd])
 (repeat' (first|(with_reducible first|(apply hK;clear hK K)|refine stZ ?_|refine aD rfl ?_|((first|apply ae|apply af);clear ae X af Y))|(with_reducible refine aG ?_;first|refine aE rfl ?_|refine aF rfl ?_)|(with_reducible refine ba ?_;refine bd hN ?_)|((with_reducible first|((first|refine aJ ?_|refine bf ?_|refine aK ?_|refine bg ?_);intro K hK)|(refine am ?_;intro X Y ae af)|refine ao ?_);simp (disch:=first|decide|omega|(simp only [List.length_cons,List.length_nil];omega)) only [go_sem,↓aj hN,ak hN,reduceIte,reduceCtorEq,Nat.reduceAdd,Nat.reduceLT,Nat.reduceLeDiff,Nat.reduceEqDiff,Nat.reduceSub])|(with_reducible refine And.intro (fun h=>?_) (fun h=>?_) <;> try (exfalso;omega))|(with_reducible refine aI ap hN ?_)|(with_reducible refine aC ap hN ?_)|(refine dq (yz g hg) ?_ rfl rfl ?_)|(refine bW hal ?_ rfl (fun _=>rfl) ?_)|(refine bW hw ?_ rfl (fun _=>rfl) ?_)|(with_reducible first|exact bt|refine bc ?_ ?_|exact cm _|refine bF ?_|exact bB _|exact bT _ _|refine bS ?_|exact bz _)|exact bG hN rfl rfl|(refine bR hN rfl ?_;first|exact aU _|exact aV _)|exact bA rfl rfl rfl|(simp only [aZ,List.map_nil])|(with_reducible refine aY ?_)|(with_reducible refine And.intro ?_ ?_)|(refine ah ?_;omega)|(exact aH hN (by decide))))
 (refine bN (fun (k : Nat)=>(tmL [(5,.c (.int .i64 k)),(4,.sl (ν 3)),(3,.sl (ν 2))],hpL hp0 ν [.dead,.dead,.arr 4 .yes (.B win),.arr 2 .yes (.I (tab k fun v=>1 - (if gb win v = true then (1 : Int) else 0)))])) (fun (k : Nat)=>k ≤ g.prio.length) (fun (k : Nat)=>g.prio.length - k) ⟨0,?_,bu hX hN [] ?_ ?_⟩ ?_;(repeat' (first|(with_reducible first|exact clZ|refine bn ?_ ?_|refine bo ?_ ?_|rfl|refine suZ ?_)|refine bp rfl ?_ ?_|exact aR hN _ rfl rfl rfl|exact aS hN _ rfl rfl rfl|exact ay hN _ rfl rfl rfl (Or.inr rfl)|(refine aT hN _ rfl rfl (by first|exact Or.inr rfl|exact Or.inl rfl) ?_;first|exact aU _|exact aV _)|refine az hN rfl ?_|refine aA hN rfl rfl ?_|exact ax hN _ rfl rfl|exact au hN rfl rfl rfl rfl|(with_reducible first|refine stZ ?_|refine aQ ?_)));(try (any_goals (first|(with_reducible rfl)|(refine ah ?_;omega)))))
 · rfl
 intro k hk
 have hlen:=cr k fun v=>1 - (if gb win v = true then (1 : Int) else 0)
 (repeat' (first|(with_reducible first|(apply hK;clear hK K)|refine stZ ?_|refine aD rfl ?_|((first|apply ae|apply af);clear ae X af Y))|(with_reducible refine aG ?_;first|refine aE rfl ?_|refine aF rfl ?_)|(with_reducible refine ba ?_;refine bd hN ?_)|((with_reducible first|((first|refine aJ ?_|refine bf ?_|refine aK ?_|refine bg ?_);intro K hK)|(refine am ?_;intro X Y ae af)|refine ao ?_);simp (disch:=first|decide|omega|(simp only [List.length_cons,List.length_nil];omega)) only [go_sem,↓aj hN,ak hN,reduceIte,reduceCtorEq,Nat.reduceAdd,Nat.reduceLT,Nat.reduceLeDiff,Nat.reduceEqDiff,Nat.reduceSub])|(with_reducible refine And.intro (fun h=>?_) (fun h=>?_) <;> try (exfalso;omega))|(with_reducible refine aI ap hN ?_)|(with_reducible refine aC ap hN ?_)|(refine bW (uw ?_) ?_ rfl (fun _=>rfl) ?_)|(with_reducible first|exact bt|refine bc ?_ ?_|exact cm _|refine bF ?_|exact bB _|exact bT _ _|refine bS ?_|exact bz _)|exact bG hN rfl rfl|(refine bR hN rfl ?_;first|exact aU _|exact aV _)|exact bA rfl rfl rfl|(simp only [aZ,List.map_nil])|(with_reducible refine aY ?_)|(with_reducible refine And.intro ?_ ?_)|(refine ah ?_;omega)|(exact aH hN (by decide))))
 · (refine ⟨k + 1,⟨?_,?_⟩,bu hX hN [(3,5)] ?_ ?_⟩;(try any_goals dsimp only);(repeat' (first|(with_reducible first|exact clZ|refine bn ?_ ?_|refine bo ?_ ?_|rfl|refine suZ ?_)|refine bp rfl ?_ ?_|exact aR hN _ rfl rfl rfl|exact aS hN _ rfl rfl rfl|exact ay hN _ rfl rfl rfl (Or.inr rfl)|(refine aT hN _ rfl rfl (by first|exact Or.inr rfl|exact Or.inl rfl) ?_;first|exact aU _|exact aV _)|refine az hN rfl ?_|refine aA hN rfl rfl ?_|exact ax hN _ rfl rfl|exact au hN rfl rfl rfl rfl|(with_reducible first|refine stZ ?_|refine aQ ?_)));(try (any_goals (first|(with_reducible rfl)|(refine ah ?_;omega)))))
   exact gZ k fun v=>1 - (if gb win v = true then (1 : Int) else 0)
 · (refine c8 hN (i:=3) (.inr rfl) (by first|rfl|(simp (disch:=first|decide|omega|(simp only [List.length_cons,List.length_nil];omega)) only [bI,bJ,bK,bM,go_sem,beq_self_eq_true,↓aB,↓aj hN,ak hN,reduceIte,reduceCtorEq,Nat.reduceAdd,Nat.reduceLT,Nat.reduceLeDiff,Nat.reduceEqDiff,Nat.reduceSub];rfl)) rfl ?_ rfl)
   rw [show k = g.prio.length by omega,hend]
theorem eO (g : Pa) : (bL g).length = g.prio.length:=cr _ _
theorem wR {g : Pa} (hg : PaOk g) : (bL g).length ≤ 1048576:=by
 have h1:=hg.ar.le
 have h2:=hg.len
 rw [eO];omega
end Go.Proofs.YtiadchinhofieaaGreat
