/-
  The winners of a whole game, on both sides.
-/
import Derived.Test.YthjamlponejffaaZhE12
import Derived.Test.YthjamlponejffaaZhG3
namespace Go.Proofs.Ythjamlponejffaa
set_option linter.unusedVariables false
set_option linter.unusedSimpArgs false
open Go.RowKit
attribute [local irreducible] ap b7 Aw Le
theorem oE {g : Pa} (hg : PaOk g) : fL g.ar (tab g.ar.own.length fun v=>v):=by
 have hm : ∀ x : Int,x ∈ (tab g.ar.own.length fun v=>(v : Int)) ↔ 0 ≤ x ∧ x < g.ar.own.length:=fun x=>by
  constructor
  · intro h
    obtain ⟨k,hk,e⟩:=ck h
    rw [bY] at hk
    rw [cH _ hk] at e
    omega
  · intro h
    have : gi (tab g.ar.own.length fun v=>(v : Int)) x.toNat = x:=by rw [cH _ (by omega)];omega
    rw [← this]
    exact cy (by rw [bY];omega)
 refine ⟨fun k hk=>?_,fun k hk=>?_⟩
 · rw [bY] at hk
   rw [cH _ hk]
   refine ⟨by omega,by omega,fun h=>?_⟩
   rw [cH _ (by omega)];omega
 · rw [bY] at hk
   rw [cH _ hk,Int.toNat_natCast]
   obtain ⟨_,_,h1,h2,h3⟩:=hg.ar.vert k hk
   have h4:=h3 0 (by omega)
   exact ⟨0,by omega,(hm _).2 ⟨h4.1,h4.2.1⟩⟩
theorem jD (g : Pa) (hg : PaOk g) : ap Try.prog 67 [paA g] [.arr 2 .yes (.I (bo g))] (fun ns=>.sl (ns.getD 0 0)):=by
 have hl:=hg.len
 have hle:=hg.ar.le
 have hP : (fun v=>gb (cr g.prio.length fun _=>true) v = true) = d6 g:=funext fun v=>propext (by
  rcases Nat.lt_or_ge v g.prio.length with h|h
  · rw [cN _ h];exact ⟨fun _=>h,fun _=>rfl⟩
  · refine ⟨fun h'=>?_,fun h'=>?_⟩
    · have:=iA h';rw [cF] at this;omega
    · have : v < g.prio.length:=h';omega)
 have hw:=pC (c8 g) g.prio.length (eZ hg) _ (cr g.prio.length fun _=>true) (cF _ _) (Nat.lt_succ_self _) (by rw [hP];exact cY hg)
 rw [hP] at hw
 clear hP
 change ap _ _ _ [.arr _ _ (.B (mks g.prio.length (PG.Won (pgP g) 0 (d6 g))))] _ at hw
 have hal:=um g.prio.length (by omega)
 have hend : (tab g.prio.length fun v=>1 - (if gb (mks g.prio.length (PG.Won (pgP g) 0 (d6 g))) v = true then (1 : Int) else 0)) = bo g:=by
  refine bR fun v hv=>?_
  rw [fb _ hv]
  split <;> rfl
 have hwl : (mks g.prio.length (PG.Won (pgP g) 0 (d6 g))).length = g.prio.length:=ep _ _
 generalize mks g.prio.length (PG.Won (pgP g) 0 (d6 g)) = win at *
 generalize (cr g.prio.length fun _=>true) = al at *
 (refine bf aI Try.func67 rfl rfl (by kernel_rfl) fun hp0 ν hX hN=>?_;simp only [bW,Nat.reduceAdd])
 (repeat' (first|(with_reducible first|(apply hK;clear hK K)|refine stZ ?_|refine aT rfl ?_|((first|apply ae|apply af);clear ae X af Y))|(with_reducible refine aW ?_;first|refine aU rfl ?_|refine aV rfl ?_)|(with_reducible refine b8 ?_;refine cc hN ?_)|((with_reducible first|((first|refine aZ ?_|refine ce ?_|refine a8 ?_|refine cf ?_);intro K hK)|(refine aE ?_;intro X Y ae af)|refine aF ?_);simp (disch:=first|decide|omega|(simp only [List.length_cons,List.length_nil];omega)) only [go_sem,↓aj hN,ak hN,reduceIte,reduceCtorEq,Nat.reduceAdd,Nat.reduceLT,Nat.reduceLeDiff,Nat.reduceEqDiff,Nat.reduceSub])|(with_reducible refine And.intro (fun h=>?_) (fun h=>?_) <;> try (exfalso;omega))|(with_reducible refine aY aI hN ?_)|(with_reducible refine bF aI hN ?_)|(refine io (wn g hg) ?_ rfl rfl ?_)|(refine aB hal ?_ rfl (fun _=>rfl) ?_)|(refine aB hw ?_ rfl (fun _=>rfl) ?_)|(with_reducible first|exact aq|refine am ?_ ?_|exact bH _|refine aM ?_|exact aL _|exact bj _ _|refine bi ?_|exact aJ _)|exact aN hN rfl rfl|(refine bh hN rfl ?_;first|exact aC _|exact aD _)|exact aK rfl rfl rfl|(simp only [ba,List.map_nil])|(with_reducible refine bu ?_)|(with_reducible refine And.intro ?_ ?_)|(refine ah ?_;omega)|(exact aX hN (by decide))))
 (refine bT (fun (k : Nat)=>(tmL [(5,.c (.int .i64 k)),(4,.sl (ν 3)),(3,.sl (ν 2))],hpL hp0 ν [.dead,.dead,.arr 4 .yes (.B win),.arr 2 .yes (.I (tab k fun v=>1 - (if gb win v = true then (1 : Int) else 0)))])) (fun (k : Nat)=>k ≤ g.prio.length) (fun (k : Nat)=>g.prio.length - k) ⟨0,?_,bB hX hN [] ?_ ?_⟩ ?_;(repeat' (first|(with_reducible first|exact clZ|refine bw ?_ ?_|refine bz ?_ ?_|rfl|refine suZ ?_)|refine bA rfl ?_ ?_|exact aP hN _ rfl rfl rfl|exact aQ hN _ rfl rfl rfl|exact ax hN _ rfl rfl rfl (Or.inr rfl)|(refine aR hN _ rfl rfl (by first|exact Or.inr rfl|exact Or.inl rfl) ?_;first|exact aC _|exact aD _)|refine ay hN rfl ?_|refine az hN rfl rfl ?_|exact au hN _ rfl rfl|exact aA hN rfl rfl rfl rfl|(with_reducible first|refine stZ ?_|refine aO ?_)));(try (any_goals (first|(with_reducible rfl)|(refine ah ?_;omega)))))
 · rfl
 intro k hk
 have hlen:=bY k fun v=>1 - (if gb win v = true then (1 : Int) else 0)
 (repeat' (first|(with_reducible first|(apply hK;clear hK K)|refine stZ ?_|refine aT rfl ?_|((first|apply ae|apply af);clear ae X af Y))|(with_reducible refine aW ?_;first|refine aU rfl ?_|refine aV rfl ?_)|(with_reducible refine b8 ?_;refine cc hN ?_)|((with_reducible first|((first|refine aZ ?_|refine ce ?_|refine a8 ?_|refine cf ?_);intro K hK)|(refine aE ?_;intro X Y ae af)|refine aF ?_);simp (disch:=first|decide|omega|(simp only [List.length_cons,List.length_nil];omega)) only [go_sem,↓aj hN,ak hN,reduceIte,reduceCtorEq,Nat.reduceAdd,Nat.reduceLT,Nat.reduceLeDiff,Nat.reduceEqDiff,Nat.reduceSub])|(with_reducible refine And.intro (fun h=>?_) (fun h=>?_) <;> try (exfalso;omega))|(with_reducible refine aY aI hN ?_)|(with_reducible refine bF aI hN ?_)|(refine aB (sQ ?_) ?_ rfl (fun _=>rfl) ?_)|(with_reducible first|exact aq|refine am ?_ ?_|exact bH _|refine aM ?_|exact aL _|exact bj _ _|refine bi ?_|exact aJ _)|exact aN hN rfl rfl|(refine bh hN rfl ?_;first|exact aC _|exact aD _)|exact aK rfl rfl rfl|(simp only [ba,List.map_nil])|(with_reducible refine bu ?_)|(with_reducible refine And.intro ?_ ?_)|(refine ah ?_;omega)|(exact aX hN (by decide))))
 · (refine ⟨k + 1,⟨?_,?_⟩,bB hX hN [(3,5)] ?_ ?_⟩;(try any_goals dsimp only);(repeat' (first|(with_reducible first|exact clZ|refine bw ?_ ?_|refine bz ?_ ?_|rfl|refine suZ ?_)|refine bA rfl ?_ ?_|exact aP hN _ rfl rfl rfl|exact aQ hN _ rfl rfl rfl|exact ax hN _ rfl rfl rfl (Or.inr rfl)|(refine aR hN _ rfl rfl (by first|exact Or.inr rfl|exact Or.inl rfl) ?_;first|exact aC _|exact aD _)|refine ay hN rfl ?_|refine az hN rfl rfl ?_|exact au hN _ rfl rfl|exact aA hN rfl rfl rfl rfl|(with_reducible first|refine stZ ?_|refine aO ?_)));(try (any_goals (first|(with_reducible rfl)|(refine ah ?_;omega)))))
   exact fX k fun v=>1 - (if gb win v = true then (1 : Int) else 0)
 · (refine cR hN (i:=3) (.inr rfl) (by first|rfl|(simp (disch:=first|decide|omega|(simp only [List.length_cons,List.length_nil];omega)) only [bG,bK,bN,bO,go_sem,beq_self_eq_true,↓ao,↓aj hN,ak hN,reduceIte,reduceCtorEq,Nat.reduceAdd,Nat.reduceLT,Nat.reduceLeDiff,Nat.reduceEqDiff,Nat.reduceSub];rfl)) rfl ?_ rfl)
   rw [show k = g.prio.length by omega,hend]
theorem dK (g : Pa) : (bo g).length = g.prio.length:=bY _ _
theorem pF {g : Pa} (hg : PaOk g) : (bo g).length ≤ 1048576:=by
 have h1:=hg.ar.le
 have h2:=hg.len
 rw [dK];omega
end Go.Proofs.Ythjamlponejffaa
