/-
  Attraction by ranks: the program's attract.
-/
import Derived.Test.YthjamlponejffaaZhAt3
namespace Go.Proofs.Ythjamlponejffaa
set_option linter.unusedVariables false
set_option linter.unusedSimpArgs false
open Go.RowKit
attribute [local irreducible] ap b7 Aw Le
theorem qE {P : PG.Gm} {who : Int} {S T : Nat → Prop} {n : Nat} (hS : ∀ v,S v → v < n) (v : Nat) : PG.Attr P who S T v ↔ PG.AttrN P who S T n v:=by
 refine ⟨fun ⟨m,hm⟩=>?_,fun h=>⟨n,h⟩⟩
 have key : ∃ k,k ≤ n ∧ ∀ v,PG.AttrN P who S T (k + 1) v → PG.AttrN P who S T k v:=by
  refine Classical.byContradiction fun hno=>?_
  have hk : ∀ k,k ≤ n → ∃ v,PG.AttrN P who S T (k + 1) v ∧ ¬ PG.AttrN P who S T k v:=fun k hk=>by
   refine Classical.byContradiction fun h=>hno ⟨k,hk,fun v hv=>?_⟩
   exact Classical.byContradiction fun h'=>h ⟨v,hv,h'⟩
  have hc : ∀ k,k ≤ n + 1 → k ≤ num (PG.AttrN P who S T k) n:=by
   intro k
   induction k with
   | zero => intro _; exact Nat.zero_le _
   | succ k ih =>
     intro h
     obtain ⟨v,h1,h2⟩:=hk k (by omega)
     have:=mW (n:=n) (hS v (PG.attrN_in h1)) h1 h2
     have:=ih (by omega)
     omega
  have h1:=hc (n + 1) (Nat.le_refl _)
  have h2:=gZ (p:=PG.AttrN P who S T (n + 1)) (k:=n)
  omega
 obtain ⟨k,hk,hst⟩:=key
 rcases Nat.lt_or_ge m k with h|h
 · exact PG.attrN_mono (by omega) hm
 · exact PG.attrN_mono hk (j6 hst m h v hm)
noncomputable def wg (g : Pa) (who : Int) (xs ys : List Int) : List Int:=lst (PG.Attr (pgA g) who (fun v=>(v : Int) ∈ xs) (fun v=>(v : Int) ∈ ys)) g.prio.length
theorem qF (g : Pa) (hg : PaOk g) (who : Int) (xs ys : List Int) (hx : bD xs g.prio.length) (hy : bD ys g.prio.length) : ap Try.prog 96 [arA g.ar,.c (.int .i64 who),.c (.I xs),.c (.I ys)] [.arr 2 .yes (.I (wg g who xs ys))] (fun ns=>.sl (ns.getD 0 0)):=by
 have hle:=hg.ar.le
 have hl:=hg.len
 have hr:=qC g hg who xs ys hx hy
 have hrl : (rkF g who xs ys).length = g.prio.length:=bY _ _
 have hat : ∀ k,k < g.prio.length → (0 ≤ gi (rkF g who xs ys) k ↔ PG.Attr (pgA g) who (fun v=>(v : Int) ∈ xs) (fun v=>(v : Int) ∈ ys) k):=fun k hk=>by
  rw [rkF,cH _ hk,fN,qE]
  intro v hv
  obtain ⟨t,h1,h2⟩:=ck hv
  have:=hx.bnd t h1
  omega
 generalize rkF g who xs ys = rk at *
 (refine bf aI Try.func96 rfl rfl (by kernel_rfl) fun hp0 ν hX hN=>?_;simp only [bW,Nat.reduceAdd])
 (repeat' (first|(with_reducible first|(apply hK;clear hK K)|refine stZ ?_|refine aT rfl ?_|((first|apply ae|apply af);clear ae X af Y))|(with_reducible refine aW ?_;first|refine aU rfl ?_|refine aV rfl ?_)|((with_reducible first|((first|refine aZ ?_|refine a8 ?_);intro K hK)|(refine aE ?_;intro X Y ae af)|refine aF ?_);simp (disch:=first|decide|omega|(simp only [List.length_cons,List.length_nil];omega)) only [go_sem,↓aj hN,ak hN,reduceIte,reduceCtorEq,Nat.reduceAdd,Nat.reduceLT,Nat.reduceLeDiff,Nat.reduceEqDiff,Nat.reduceSub])|(with_reducible refine And.intro (fun h=>?_) (fun h=>?_) <;> try (exfalso;omega))|(with_reducible refine aY aI hN ?_)|(refine aB (hr) ?_ rfl (fun _=>rfl) ?_;focus ((repeat' (first|(with_reducible first|exact aq|refine am ?_ ?_|exact bH _|refine aM ?_|exact aL _|exact bj _ _|refine bi ?_|exact aJ _)|exact aN hN rfl rfl|(refine bh hN rfl ?_;first|exact aC _|exact aD _)|exact aK rfl rfl rfl));done))|(with_reducible first|exact aq|refine am ?_ ?_|exact bH _|refine aM ?_|exact aL _|exact bj _ _|refine bi ?_|exact aJ _)|exact aN hN rfl rfl|(refine bh hN rfl ?_;first|exact aC _|exact aD _)|exact aK rfl rfl rfl|(simp only [ba,List.map_nil])|(with_reducible refine bu ?_)|(with_reducible refine And.intro ?_ ?_)|(refine ah ?_;omega)|(exact aX hN (by decide))))
 (refine bT (fun (k : Nat)=>(tmL [(19,.c (.int .i64 k)),(18,.c (.int .i64 rk.length)),(17,.sl (ν 2)),(9,.sl (ν 1))],hpL hp0 ν [.dead,.arr 2 .yes (.I (lst (PG.Attr (pgA g) who (fun v=>(v : Int) ∈ xs) (fun v=>(v : Int) ∈ ys)) k)),.arr 2 .yes (.I rk)])) (fun (k : Nat)=>k ≤ rk.length) (fun (k : Nat)=>rk.length - k) ⟨0,?_,bB hX hN [] ?_ ?_⟩ ?_;(repeat' (first|(with_reducible first|exact clZ|refine bw ?_ ?_|refine bz ?_ ?_|rfl|refine suZ ?_)|refine bA rfl ?_ ?_|exact aP hN _ rfl rfl rfl|exact aQ hN _ rfl rfl rfl|exact ax hN _ rfl rfl rfl (Or.inr rfl)|(refine aR hN _ rfl rfl (by first|exact Or.inr rfl|exact Or.inl rfl) ?_;first|exact aC _|exact aD _)|refine ay hN rfl ?_|refine az hN rfl rfl ?_|exact au hN _ rfl rfl|exact aA hN rfl rfl rfl rfl|(with_reducible first|refine stZ ?_|refine aO ?_)));(try (any_goals (first|(with_reducible rfl)|(refine ah ?_;omega)))))
 · rfl
 intro k hk
 have hll:=eR (PG.Attr (pgA g) who (fun v=>(v : Int) ∈ xs) (fun v=>(v : Int) ∈ ys)) k
 (repeat' (first|(with_reducible first|(apply hK;clear hK K)|refine stZ ?_|refine aT rfl ?_|((first|apply ae|apply af);clear ae X af Y))|(with_reducible refine aW ?_;first|refine aU rfl ?_|refine aV rfl ?_)|((with_reducible first|((first|refine aZ ?_|refine a8 ?_);intro K hK)|(refine aE ?_;intro X Y ae af)|refine aF ?_);simp (disch:=first|decide|omega|(simp only [List.length_cons,List.length_nil];omega)) only [go_sem,↓aj hN,ak hN,reduceIte,reduceCtorEq,Nat.reduceAdd,Nat.reduceLT,Nat.reduceLeDiff,Nat.reduceEqDiff,Nat.reduceSub])|(with_reducible refine And.intro (fun h=>?_) (fun h=>?_) <;> try (exfalso;omega))|(with_reducible refine aY aI hN ?_)|(with_reducible refine And.intro ?_ ?_)|(refine ah ?_;omega)|(exact aX hN (by decide))))
 · (refine ⟨k + 1,⟨?_,?_⟩,bB hX hN [(1,4)] ?_ ?_⟩;(try any_goals dsimp only);(repeat' (first|(with_reducible first|exact clZ|refine bw ?_ ?_|refine bz ?_ ?_|rfl|refine suZ ?_)|refine bA rfl ?_ ?_|exact aP hN _ rfl rfl rfl|exact aQ hN _ rfl rfl rfl|exact ax hN _ rfl rfl rfl (Or.inr rfl)|(refine aR hN _ rfl rfl (by first|exact Or.inr rfl|exact Or.inl rfl) ?_;first|exact aC _|exact aD _)|refine ay hN rfl ?_|refine az hN rfl rfl ?_|exact au hN _ rfl rfl|exact aA hN rfl rfl rfl rfl|(with_reducible first|refine stZ ?_|refine aO ?_)));(try (any_goals (first|(with_reducible rfl)|(refine ah ?_;omega)))))
   exact dw ((hat k (by omega)).1 (by omega))
 · (refine ⟨k + 1,⟨?_,?_⟩,bB hX hN [] ?_ ?_⟩;(try any_goals dsimp only);(repeat' (first|(with_reducible first|exact clZ|refine bw ?_ ?_|refine bz ?_ ?_|rfl|refine suZ ?_)|refine bA rfl ?_ ?_|exact aP hN _ rfl rfl rfl|exact aQ hN _ rfl rfl rfl|exact ax hN _ rfl rfl rfl (Or.inr rfl)|(refine aR hN _ rfl rfl (by first|exact Or.inr rfl|exact Or.inl rfl) ?_;first|exact aC _|exact aD _)|refine ay hN rfl ?_|refine az hN rfl rfl ?_|exact au hN _ rfl rfl|exact aA hN rfl rfl rfl rfl|(with_reducible first|refine stZ ?_|refine aO ?_)));(try (any_goals (first|(with_reducible rfl)|(refine ah ?_;omega)))))
   exact d9 fun h=>absurd ((hat k (by omega)).2 h) (by omega)
 · (refine cR hN (i:=1) (.inr rfl) (by first|rfl|(simp (disch:=first|decide|omega|(simp only [List.length_cons,List.length_nil];omega)) only [bG,bK,bN,bO,go_sem,beq_self_eq_true,↓ao,↓aj hN,ak hN,reduceIte,reduceCtorEq,Nat.reduceAdd,Nat.reduceLT,Nat.reduceLeDiff,Nat.reduceEqDiff,Nat.reduceSub];rfl)) rfl ?_ rfl)
   rw [show k = g.prio.length by omega];rfl
end Go.Proofs.Ythjamlponejffaa
