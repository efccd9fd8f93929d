/-
  WonIn of the reference for all vertices.
-/
import Derived.Test.YthjamlponejffaaZiE13
import Derived.Test.YthjamlponejffaaZiD5
namespace Go.Proofs.Ythjamlponejffaa
set_option linter.unusedVariables false
set_option linter.unusedSimpArgs false
open Go.RowKit
attribute [local irreducible] ap b9 Aw Le
theorem mB (n : Nat) : bC (tab n fun v=>(v : Int)) n:=fun k hk=>by
 rw [bD] at hk
 rw [bH _ hk]
 exact ⟨by omega,by omega,fun h=>by rw [bH _ (by omega)];omega⟩
theorem lC {n : Nat} {v : Nat} : (v : Int) ∈ (tab n fun v=>(v : Int)) ↔ v < n:=by
 constructor
 · intro h
   obtain ⟨k,hk,e⟩:=dS h
   rw [bD] at hk
   rw [bH _ hk] at e
   omega
 · intro h
   have e : gi (tab n fun v=>(v : Int)) v = v:=bH _ h
   rw [← e]
   exact dz (by rw [bD];exact h)
set_option maxHeartbeats 2000000 in
theorem gO (g : Pa) (hg : PaOk g) : ap Try.prog 40 [paA g,.c (.I (tab g.prio.length fun v=>(v : Int)))] [.arr 2 .yes (.I (atL (cE g) 0)),.arr 2 .yes (.I (atL (cE g) 1))] (fun ns=>.tup [.sl (ns.getD 0 0),.sl (ns.getD 1 0)]):=by
 have hle:=hg.ar.le
 have hl:=hg.len
 have hwl:=fu g
 have hs:=mB g.prio.length
 have hxg:=mo hg
 rw [← hl] at hxg
 have hB:=hs.bnd
 have hxl:=bD g.prio.length fun v=>(v : Int)
 have hat : ∀ k,k < g.prio.length → gi (tab g.prio.length fun v=>(v : Int)) k = k:=fun k hk=>bH _ hk
 have h1:=lb g
 rw [bh hg] at h1
 have h2:=mX (tab g.prio.length fun v=>(v : Int)) g.prio.length
 rw [bh ⟨⟨by omega,by omega⟩,hs⟩] at h2
 have h3:=pB g.prio.length (tab g.prio.length fun v=>(v : Int)) hB (by omega) (by omega)
 have hcd:=fun v h0 h1=>iP (c9 g) g.prio.length (dL hg) (mks g.prio.length fun v : Nat=>(v : Int) ∈ (tab g.prio.length fun v=>(v : Int))) (dG _ _) v h0 h1
 have hdeg : ∀ k,k < g.prio.length → ¬ ((deg (c9 g) (mks g.prio.length fun v : Nat=>(v : Int) ∈ (tab g.prio.length fun v=>(v : Int))) (k : Int) : Int) = 0):=fun k hk e=>by
  obtain ⟨i,q1,q2⟩:=hxg.2 k (by omega)
  rw [hat k hk,Int.toNat_natCast] at q1 q2
  have:=(pK hg (xs:=tab g.prio.length fun v=>(v : Int)) (v:=(k : Int)) (by omega) (by omega)).1 (by omega) i
  rw [Int.toNat_natCast] at this
  exact this q1 q2
 have hP : (fun v=>gb (mks g.prio.length fun v : Nat=>(v : Int) ∈ (tab g.prio.length fun v=>(v : Int))) v = true) = dy g:=funext fun v=>propext ((qV fun v h=>lC.1 h).trans lC)
 have hw:=qU (c9 g) g.prio.length (dL hg) _ (mks g.prio.length fun v : Nat=>(v : Int) ∈ (tab g.prio.length fun v=>(v : Int))) (dG _ _) (Nat.lt_succ_self _) (by rw [hP];exact dQ hg)
 rw [hP] at hw
 clear hP
 change ap _ _ _ [.arr _ _ (.B (mks g.prio.length (PG.Won (pgP g) 0 (dy g))))] _ at hw
 have hwn:=dG g.prio.length (PG.Won (pgP g) 0 (dy g))
 have hev : ∀ k,k < g.prio.length → gb (bZ (cE g).length fun v=>gi (cE g) v == 0) k = gb (mks g.prio.length (PG.Won (pgP g) 0 (dy g))) k:=fun k hk=>by
  rw [cT _ (by omega),fh _ hk,cE,bH _ hk]
  by_cases h : PG.Won (pgP g) 0 (dy g) k
  · rw [bh h];rfl
  · rw [aH h];rfl
 have hod : ∀ k,k < g.prio.length → gb (bZ (cE g).length fun v=>gi (cE g) v == 1) k = !gb (mks g.prio.length (PG.Won (pgP g) 0 (dy g))) k:=fun k hk=>by
  rw [cT _ (by omega),fh _ hk,cE,bH _ hk]
  by_cases h : PG.Won (pgP g) 0 (dy g) k
  · rw [bh h];rfl
  · rw [aH h];rfl
 have HEV:=Lib.hid hev
 have HOD:=Lib.hid hod
 clear hev hod hxg hs
 rw [show atL (cE g) 0 = cX (bZ (cE g).length fun v=>gi (cE g) v == 0) g.prio.length from by rw [← hwl];rfl,show atL (cE g) 1 = cX (bZ (cE g).length fun v=>gi (cE g) v == 1) g.prio.length from by rw [← hwl];rfl]
 generalize (bZ (cE g).length fun v=>gi (cE g) v == 0) = ev at *
 generalize (bZ (cE g).length fun v=>gi (cE g) v == 1) = od at *
 generalize (mks g.prio.length fun v : Nat=>(v : Int) ∈ (tab g.prio.length fun v=>(v : Int))) = part at *
 generalize mks g.prio.length (PG.Won (pgP g) 0 (dy g)) = win at *
 generalize (tab g.prio.length fun v=>(v : Int)) = all at *
 clear hwl
 (refine bA aQ Try.func40 rfl rfl (by kernel_rfl) fun hp0 ν hX hN=>?_;simp only [cG,Nat.reduceAdd])
 (repeat' (first|(with_reducible first|(apply hK;clear hK K)|refine stZ ?_|refine aZ rfl ?_|((first|apply ae|apply af);clear ae X af Y))|(with_reducible refine bc ?_;first|refine a8 rfl ?_|refine ba rfl ?_)|(with_reducible refine bG ?_;first|refine bo rfl rfl rfl rfl ?_|refine bF rfl rfl rfl ?_|refine bX rfl rfl rfl rfl ?_)|(with_reducible refine cm ?_;first|refine cz rfl rfl rfl rfl ?_|refine cQ rfl rfl rfl ?_|refine dw rfl rfl rfl rfl ?_|refine cr hN ?_)|((first|(with_reducible first|((first|refine bf ?_|refine ct ?_|refine bg ?_|refine cw ?_);intro K hK)|(refine aN ?_;intro X Y ae af)|refine aO ?_)|(with_reducible refine bG ?_;refine bp rfl rfl fun X Y ae af=>?_)|(with_reducible refine cm ?_;refine cA rfl rfl fun X Y ae af=>?_));simp (disch:=first|decide|omega|(simp only [List.length_cons,List.length_nil];omega)) only [go_sem,↓ah hN,ak hN,reduceIte,reduceCtorEq,Nat.reduceAdd,Nat.reduceLT,Nat.reduceLeDiff,Nat.reduceEqDiff,Nat.reduceSub])|(with_reducible refine And.intro (fun h=>?_) (fun h=>?_) <;> try (exfalso;omega))|(with_reducible refine be aQ hN ?_)|(with_reducible refine bB aQ hN ?_)|((first|refine br (h1) ?_ rfl (fun _=>rfl) ?_|refine br (h2) ?_ rfl (fun _=>rfl) ?_);focus ((repeat' (first|(with_reducible first|exact aq|refine am ?_ ?_|exact bL _|refine aR ?_|exact aL _|exact bn _ _|refine bm ?_|exact aJ _)|exact aS hN rfl rfl|(refine bj hN rfl ?_;first|exact aF _|exact aG _)|exact aK rfl rfl rfl));done))|(refine du (se g hg) ?_ rfl rfl ?_)|(refine br (h3) ?_ rfl (fun _=>rfl) ?_;focus ((repeat' (first|(with_reducible first|exact aq|refine am ?_ ?_|exact bL _|refine aR ?_|exact aL _|exact bn _ _|refine bm ?_|exact aJ _)|exact aS hN rfl rfl|(refine bj hN rfl ?_;first|exact aF _|exact aG _)|exact aK rfl rfl rfl));done))|(with_reducible first|exact aq|refine am ?_ ?_|exact bL _|refine aR ?_|exact aL _|exact bn _ _|refine bm ?_|exact aJ _)|exact aS hN rfl rfl|(refine bj hN rfl ?_;first|exact aF _|exact aG _)|exact aK rfl rfl rfl|(simp only [aI,List.map_nil])|(with_reducible refine bI ?_)|(with_reducible refine And.intro ?_ ?_)|(refine aj ?_;omega)|(exact bd hN (by decide))))
 (refine cf (fun (k : Nat)=>(tmL [(10,.c (.int .i64 k)),(9,.sl (ν 4)),(8,.ad (ν 3) 0),(7,.sl (ν 2)),(6,.sl (ν 1)),(1,.c (.I all))],hpL hp0 ν [.dead,.arr 2 .yes (.I []),.arr 2 .yes (.I []),.box [.c (.I (c9 g).own),.c (.I (c9 g).prio),.c (.R (c9 g).nxt),.c (.R (c9 g).prev),.c (.I (c9 g).pick)],.arr 4 .yes (.B part)])) (fun (k : Nat)=>k ≤ g.prio.length) (fun (k : Nat)=>g.prio.length - k) ⟨0,?_,bE hX hN [] ?_ ?_⟩ ?_;(repeat' (first|(with_reducible first|exact clZ|refine bv ?_ ?_|refine bw ?_ ?_|rfl|refine suZ ?_)|refine bz rfl ?_ ?_|exact aU hN _ rfl rfl rfl|exact aV hN _ rfl rfl rfl|exact az hN _ rfl rfl rfl (Or.inr rfl)|(refine aW hN _ rfl rfl (by first|exact Or.inr rfl|exact Or.inl rfl) ?_;first|exact aF _|exact aG _)|refine aA hN rfl ?_|refine aB hN rfl rfl ?_|exact ay hN _ rfl rfl|exact aC hN rfl rfl rfl rfl|(with_reducible first|refine stZ ?_|refine aT ?_)));(try (any_goals (first|(with_reducible rfl)|(refine aj ?_;omega)))))
 intro k hk
 have hb : k < g.prio.length → gi all k = k:=hat k
 have hdk : k < g.prio.length → ¬ (deg (c9 g) part (gi all k) : Int) = 0:=fun h=>by rw [hat k h];exact hdeg k h
 have hck : k < g.prio.length → ap Try.prog 82 [gmA (c9 g),.c (.B part),.c (.int .i64 (gi all k))] [] (fun _=>.c (.int .i64 (deg (c9 g) part (gi all k)))):=fun h=>hcd (gi all k) (by rw [hat k h];omega) (by rw [hat k h];omega)
 (repeat' (first|(with_reducible first|(apply hK;clear hK K)|refine stZ ?_|refine aZ rfl ?_|((first|apply ae|apply af);clear ae X af Y))|(with_reducible refine bc ?_;first|refine a8 rfl ?_|refine ba rfl ?_)|(with_reducible refine bG ?_;first|refine bo rfl rfl rfl rfl ?_|refine bF rfl rfl rfl ?_|refine bX rfl rfl rfl rfl ?_)|(with_reducible refine cm ?_;first|refine cz rfl rfl rfl rfl ?_|refine cQ rfl rfl rfl ?_|refine dw rfl rfl rfl rfl ?_|refine cr hN ?_)|((first|(with_reducible first|((first|refine bf ?_|refine ct ?_|refine bg ?_|refine cw ?_);intro K hK)|(refine aN ?_;intro X Y ae af)|refine aO ?_)|(with_reducible refine bG ?_;refine bp rfl rfl fun X Y ae af=>?_)|(with_reducible refine cm ?_;refine cA rfl rfl fun X Y ae af=>?_));simp (disch:=first|decide|omega|(simp only [List.length_cons,List.length_nil];omega)) only [go_sem,↓ah hN,ak hN,reduceIte,reduceCtorEq,Nat.reduceAdd,Nat.reduceLT,Nat.reduceLeDiff,Nat.reduceEqDiff,Nat.reduceSub])|(with_reducible refine And.intro (fun h=>?_) (fun h=>?_) <;> try (exfalso;omega))|(with_reducible refine be aQ hN ?_)|(with_reducible refine bB aQ hN ?_)|(refine br (hck (by omega)) ?_ rfl (fun _=>rfl) ?_;focus ((repeat' (first|(with_reducible first|exact aq|refine am ?_ ?_|exact bL _|refine aR ?_|exact aL _|exact bn _ _|refine bm ?_|exact aJ _)|exact aS hN rfl rfl|(refine bj hN rfl ?_;first|exact aF _|exact aG _)|exact aK rfl rfl rfl));done))|(refine br (hw) ?_ rfl (fun _=>rfl) ?_;focus ((repeat' (first|(with_reducible first|exact aq|refine am ?_ ?_|exact bL _|refine aR ?_|exact aL _|exact bn _ _|refine bm ?_|exact aJ _)|exact aS hN rfl rfl|(refine bj hN rfl ?_;first|exact aF _|exact aG _)|exact aK rfl rfl rfl));done))|(with_reducible first|exact aq|refine am ?_ ?_|exact bL _|refine aR ?_|exact aL _|exact bn _ _|refine bm ?_|exact aJ _)|exact aS hN rfl rfl|(refine bj hN rfl ?_;first|exact aF _|exact aG _)|exact aK rfl rfl rfl|(simp only [aI,List.map_nil])|(with_reducible refine bI ?_)|(with_reducible refine And.intro ?_ ?_)|(refine aj ?_;omega)|(exact bd hN (by decide))))
 · (refine ⟨k + 1,⟨?_,?_⟩,bE hX hN [] ?_ ?_⟩;(try any_goals dsimp only);(repeat' (first|(with_reducible first|exact clZ|refine bv ?_ ?_|refine bw ?_ ?_|rfl|refine suZ ?_)|refine bz rfl ?_ ?_|exact aU hN _ rfl rfl rfl|exact aV hN _ rfl rfl rfl|exact az hN _ rfl rfl rfl (Or.inr rfl)|(refine aW hN _ rfl rfl (by first|exact Or.inr rfl|exact Or.inl rfl) ?_;first|exact aF _|exact aG _)|refine aA hN rfl ?_|refine aB hN rfl rfl ?_|exact ay hN _ rfl rfl|exact aC hN rfl rfl rfl rfl|(with_reducible first|refine stZ ?_|refine aT ?_)));(try (any_goals (first|(with_reducible rfl)|(refine aj ?_;omega)))))
 clear hb hdk hck hcd hw hdeg h1 h2 h3
 (refine cf (fun (k : Nat)=>(tmL [(12,.c (.int .i64 k)),(11,.sl (ν 5)),(7,.sl (ν 2)),(6,.sl (ν 1)),(1,.c (.I all))],hpL hp0 ν [.dead,.arr 2 .yes (.I (cX ev k)),.arr 2 .yes (.I (cX od k)),.box [.c (.I (c9 g).own),.c (.I (c9 g).prio),.c (.R (c9 g).nxt),.c (.R (c9 g).prev),.c (.I (c9 g).pick)],.arr 4 .yes (.B part),.arr 4 .yes (.B win)])) (fun (k : Nat)=>k ≤ g.prio.length) (fun (k : Nat)=>g.prio.length - k) ⟨0,?_,bE hX hN [] ?_ ?_⟩ ?_;(repeat' (first|(with_reducible first|exact clZ|refine bv ?_ ?_|refine bw ?_ ?_|rfl|refine suZ ?_)|refine bz rfl ?_ ?_|exact aU hN _ rfl rfl rfl|exact aV hN _ rfl rfl rfl|exact az hN _ rfl rfl rfl (Or.inr rfl)|(refine aW hN _ rfl rfl (by first|exact Or.inr rfl|exact Or.inl rfl) ?_;first|exact aF _|exact aG _)|refine aA hN rfl ?_|refine aB hN rfl rfl ?_|exact ay hN _ rfl rfl|exact aC hN rfl rfl rfl rfl|(with_reducible first|refine stZ ?_|refine aT ?_)));(try (any_goals (first|(with_reducible rfl)|(refine aj ?_;omega)))))
 · rfl
 · rfl
 intro k hk
 have hb : k < g.prio.length → gi all k = k:=hat k
 have hl1:=iR ev k
 have hl2:=iR od k
 have e1 : k < g.prio.length → gb ev k = gb win k:=HEV.out k
 have e2 : k < g.prio.length → gb od k = !gb win k:=HOD.out k
 have E1:=Lib.hid e1
 have E2:=Lib.hid e2
 clear e1 e2
 (repeat' (first|(with_reducible first|(apply hK;clear hK K)|refine stZ ?_|refine aZ rfl ?_|((first|apply ae|apply af);clear ae X af Y))|(with_reducible refine bc ?_;first|refine a8 rfl ?_|refine ba rfl ?_)|(with_reducible refine bG ?_;first|refine bo rfl rfl rfl rfl ?_|refine bF rfl rfl rfl ?_|refine bX rfl rfl rfl rfl ?_)|(with_reducible refine cm ?_;first|refine cz rfl rfl rfl rfl ?_|refine cQ rfl rfl rfl ?_|refine dw rfl rfl rfl rfl ?_|refine cr hN ?_)|((first|(with_reducible first|((first|refine bf ?_|refine ct ?_|refine bg ?_|refine cw ?_);intro K hK)|(refine aN ?_;intro X Y ae af)|refine aO ?_)|(with_reducible refine bG ?_;refine bp rfl rfl fun X Y ae af=>?_)|(with_reducible refine cm ?_;refine cA rfl rfl fun X Y ae af=>?_));simp (disch:=first|decide|omega|(simp only [List.length_cons,List.length_nil];omega)) only [go_sem,↓ah hN,ak hN,reduceIte,reduceCtorEq,Nat.reduceAdd,Nat.reduceLT,Nat.reduceLeDiff,Nat.reduceEqDiff,Nat.reduceSub])|(with_reducible refine And.intro (fun h=>?_) (fun h=>?_) <;> try (exfalso;omega))|(with_reducible refine be aQ hN ?_)|(with_reducible refine bB aQ hN ?_)|(with_reducible refine And.intro ?_ ?_)|(refine aj ?_;omega)|(exact bd hN (by decide))))
 · rename_i h
   rw [hb (by omega),Int.toNat_natCast] at h
   have e1:=E1.out (by omega)
   have e2:=E2.out (by omega)
   rw [h] at e1 e2
   (refine ⟨k + 1,⟨?_,?_⟩,bE hX hN [(1,7)] ?_ ?_⟩;(try any_goals dsimp only);(repeat' (first|(with_reducible first|exact clZ|refine bv ?_ ?_|refine bw ?_ ?_|rfl|refine suZ ?_)|refine bz rfl ?_ ?_|exact aU hN _ rfl rfl rfl|exact aV hN _ rfl rfl rfl|exact az hN _ rfl rfl rfl (Or.inr rfl)|(refine aW hN _ rfl rfl (by first|exact Or.inr rfl|exact Or.inl rfl) ?_;first|exact aF _|exact aG _)|refine aA hN rfl ?_|refine aB hN rfl rfl ?_|exact ay hN _ rfl rfl|exact aC hN rfl rfl rfl rfl|(with_reducible first|refine stZ ?_|refine aT ?_)));(try (any_goals (first|(with_reducible rfl)|(refine aj ?_;omega)))))
   · show cX ev k ++ (if gb ev k = true then [(k : Int)] else []) = _
     rw [if_pos e1,hb (by omega)]
   · show cX od k ++ (if gb od k = true then [(k : Int)] else []) = _
     rw [if_neg (by rw [e2];decide),List.append_nil]
 · rename_i h
   rw [hb (by omega),Int.toNat_natCast] at h
   have e1:=E1.out (by omega)
   have e2:=E2.out (by omega)
   rw [h] at e1 e2
   (refine ⟨k + 1,⟨?_,?_⟩,bE hX hN [(2,7)] ?_ ?_⟩;(try any_goals dsimp only);(repeat' (first|(with_reducible first|exact clZ|refine bv ?_ ?_|refine bw ?_ ?_|rfl|refine suZ ?_)|refine bz rfl ?_ ?_|exact aU hN _ rfl rfl rfl|exact aV hN _ rfl rfl rfl|exact az hN _ rfl rfl rfl (Or.inr rfl)|(refine aW hN _ rfl rfl (by first|exact Or.inr rfl|exact Or.inl rfl) ?_;first|exact aF _|exact aG _)|refine aA hN rfl ?_|refine aB hN rfl rfl ?_|exact ay hN _ rfl rfl|exact aC hN rfl rfl rfl rfl|(with_reducible first|refine stZ ?_|refine aT ?_)));(try (any_goals (first|(with_reducible rfl)|(refine aj ?_;omega)))))
   · show cX ev k ++ (if gb ev k = true then [(k : Int)] else []) = _
     rw [if_neg (by rw [e1];decide),List.append_nil]
   · show cX od k ++ (if gb od k = true then [(k : Int)] else []) = _
     rw [if_pos (show gb od k = true by rw [e2];rfl),hb (by omega)]
 · obtain rfl : k = g.prio.length:=by omega
   (refine fP hN [1,2] (by decide) (.inr rfl) (by first|exact cB rfl rfl|exact ce hN rfl rfl rfl rfl|exact bO hN rfl rfl rfl rfl rfl|(simp (disch:=first|decide|omega|(simp only [List.length_cons,List.length_nil];omega)) only [bS,cc,ch,cj,go_sem,beq_self_eq_true,↓ax,↓ah hN,ak hN,reduceIte,reduceCtorEq,Nat.reduceAdd,Nat.reduceLT,Nat.reduceLeDiff,Nat.reduceEqDiff,Nat.reduceSub];rfl)|rfl) ?_ fun νs hνs=>?_;(repeat' (first|exact Gone.nil|(refine Gone.cons rfl rfl ?_ ?_)|(with_reducible refine er ?_)|(with_reducible refine eq ?_)|(with_reducible refine SVs.cons ?_ ?_)|(with_reducible exact SVs.nil)|(simp only [List.drop,List.take])|(simp (disch:=first|decide|omega) only [↓ax,reduceIte,reduceCtorEq,Nat.reduceEqDiff])|(with_reducible exact i7 _)|(with_reducible exact eo _)|(exact ep rfl rfl rfl)|(exact fa 0 (by simp) rfl rfl)|(exact fa 1 (by simp) rfl rfl)|(refine fO hN rfl (eu hN (by decide)) ?_)|(with_reducible refine fN ?_)|(with_reducible rfl)|(with_reducible refine i8 ?_)|(with_reducible refine i9 ?_)|(with_reducible refine ja ?_)|(with_reducible refine iJ ?_)|(with_reducible refine iK ?_)|(refine aj ?_;omega))))
   all_goals rfl
end Go.Proofs.Ythjamlponejffaa
