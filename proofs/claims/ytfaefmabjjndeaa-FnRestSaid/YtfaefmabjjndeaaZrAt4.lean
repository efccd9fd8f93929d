/-
  Attraction by ranks: the program's attract.
-/
import Derived.Test.YtfaefmabjjndeaaZrAt3
namespace Go.Proofs.Ytfaefmabjjndeaa
set_option linter.unusedVariables false
set_option linter.unusedSimpArgs false
open Go.RowKit
attribute [local irreducible] aF cL Aw Le
theorem pi {P : PG.Gm} {who : Int} {S T : Nat → Prop} {n : Nat} (hS : ∀ v,S v → v < n) (v : Nat) : PG.Attr P who S T v ↔ PG.AttrN P who S T n v:=by
 refine ⟨fun ⟨m,hm⟩=>?_,fun h=>⟨n,h⟩⟩
 have key : ∃ k,k ≤ n ∧ ∀ v,PG.AttrN P who S T (k + 1) v → PG.AttrN P who S T k v:=by
  refine Classical.byContradiction fun hno=>?_
  have hk : ∀ k,k ≤ n → ∃ v,PG.AttrN P who S T (k + 1) v ∧ ¬ PG.AttrN P who S T k v:=fun k hk=>by
   refine Classical.byContradiction fun h=>hno ⟨k,hk,fun v hv=>?_⟩
   exact Classical.byContradiction fun h'=>h ⟨v,hv,h'⟩
  have hc : ∀ k,k ≤ n + 1 → k ≤ num (PG.AttrN P who S T k) n:=by
   intro k
   induction k with
   | zero => intro _; exact Nat.zero_le _
   | succ k ih =>
     intro h
     obtain ⟨v,h1,h2⟩:=hk k (by omega)
     have:=mv (n:=n) (hS v (PG.attrN_in h1)) h1 h2
     have:=ih (by omega)
     omega
  have h1:=hc (n + 1) (Nat.le_refl _)
  have h2:=lw (p:=PG.AttrN P who S T (n + 1)) (k:=n)
  omega
 obtain ⟨k,hk,hst⟩:=key
 rcases Nat.lt_or_ge m k with h|h
 · exact PG.attrN_mono (by omega) hm
 · exact PG.attrN_mono hk (jQ hst m h v hm)
noncomputable def mw (g : Pa) (who : Int) (xs ys : List Int) : List Int:=lst (PG.Attr (pgA g) who (fun v=>(v : Int) ∈ xs) (fun v=>(v : Int) ∈ ys)) g.prio.length
theorem pj (g : Pa) (hg : PaOk g) (who : Int) (xs ys : List Int) (hx : ck xs g.prio.length) (hy : ck ys g.prio.length) : aF Try.prog 116 [arA g.ar,.c (.int .i64 who),.c (.I xs),.c (.I ys)] [.arr 2 .yes (.I (mw g who xs ys))] (fun ns=>.sl (ns.getD 0 0)):=by
 have hle:=hg.ar.le
 have hl:=hg.len
 have hr:=ph g hg who xs ys hx hy
 have hrl : (rkF g who xs ys).length = g.prio.length:=cj _ _
 have hat : ∀ k,k < g.prio.length → (0 ≤ gi (rkF g who xs ys) k ↔ PG.Attr (pgA g) who (fun v=>(v : Int) ∈ xs) (fun v=>(v : Int) ∈ ys) k):=fun k hk=>by
  rw [rkF,cV _ hk,fZ,pi]
  intro v hv
  obtain ⟨t,h1,h2⟩:=cU hv
  have:=hx.bnd t h1
  omega
 generalize rkF g who xs ys = rk at *
 (refine bU aO Try.func116 rfl rfl (by kernel_rfl) fun hp0 ν hX hN=>?_;simp only [cN,Nat.reduceAdd])
 (repeat' (first|(with_reducible first|(refine hK _ _ ?_;clear hK K)|(refine aa _ ?_;clear aa K)|refine bi ?_|refine b8 ?_|refine a9 ?_|refine au ?_|refine aq ?_|refine b9 ?_|refine aI ?_|refine ba ?_|refine ca ?_|refine bc ?_|refine be rfl ?_|refine bj ?_|refine bf ?_|refine cc ?_|refine bg ?_|refine aH ?_|refine n_k ?_|refine bh ?_|(refine ae ?_;clear ae X af Y)|(refine af ?_;clear ae X af Y))|(with_reducible refine bp ?_;first|refine bn rfl ?_|refine bo rfl ?_)|(with_reducible refine a8 ?_;first|refine ax rfl rfl rfl rfl ?_|refine aK rfl rfl rfl ?_|refine bu rfl rfl rfl rfl ?_)|((first|(with_reducible first|refine br rfl rfl fun K hK=>?_|refine bt rfl rfl fun K aa=>?_|refine aJ fun X Y ae af=>?_|refine aL ?_));simp (disch:=first|decide|omega|(simp only [List.length_cons,List.length_nil];omega)) only [go_sem,beq_self_eq_true,↓aj,↓ak hN,am hN,reduceIte,reduceCtorEq,Nat.reduceAdd,Nat.reduceLT,Nat.reduceLeDiff,Nat.reduceEqDiff,Nat.reduceSub])|(with_reducible refine And.intro (fun h=>?_) (fun h=>?_) <;> try (exfalso;omega))|(with_reducible refine bm aO hN rfl ?_ ?_;kernel_rfl)|(refine bB (hr) ?_ rfl (fun _=>rfl) ?_;focus ((repeat' (first|(with_reducible first|exact aG|refine ap ?_ ?_|exact cA _|refine bz ?_|exact aY _|exact b7 _ _|refine bZ ?_|exact aW _)|exact bA hN rfl rfl|(refine bY hN rfl ?_;first|exact aM _|exact aN _)|exact aX rfl rfl rfl));done))|(with_reducible first|exact aG|refine ap ?_ ?_|exact cA _|refine bz ?_|exact aY _|exact b7 _ _|refine bZ ?_|exact aW _)|exact bA hN rfl rfl|(refine bY hN rfl ?_;first|exact aM _|exact aN _)|exact aX rfl rfl rfl|(simp only [bJ,List.map_nil])|(with_reducible refine ci ?_)|(with_reducible refine And.intro ?_ ?_)|(refine ah ?_;omega)|(exact bv hN (by decide))))
 (refine co (fun (k : Nat)=>(tmL [(19,.c (.int .i64 k)),(18,.c (.int .i64 rk.length)),(17,.sl (ν 2)),(9,.sl (ν 1))],hpL hp0 ν [.dead,.arr 2 .yes (.I (lst (PG.Attr (pgA g) who (fun v=>(v : Int) ∈ xs) (fun v=>(v : Int) ∈ ys)) k)),.arr 2 .yes (.I rk)])) (fun (k : Nat)=>k ≤ rk.length) (fun (k : Nat)=>rk.length - k) ⟨0,?_,bT hX hN [] ?_ ?_⟩ ?_;(repeat' (first|(with_reducible first|exact bM _|exact bN|exact bO|refine bP ?_ ?_|refine bQ ?_ ?_|exact ay _|exact bK _|exact ao _|rfl|exact aQ _ _|refine aA ?_|exact bL _|refine aU ?_)|refine bR rfl ?_ ?_|exact aR hN _ rfl rfl rfl|exact aS hN _ rfl rfl rfl|exact aB hN _ rfl rfl rfl (Or.inr rfl)|(refine aT hN _ rfl rfl (by first|exact Or.inr rfl|exact Or.inl rfl) ?_;first|exact aM _|exact aN _)|refine aC hN rfl ?_|refine aD hN rfl rfl ?_|exact az hN _ rfl rfl|exact aE hN rfl rfl rfl rfl|(with_reducible first|refine aP ?_|refine bF ?_|refine bG ?_|refine bH ?_|refine bD ?_|refine bE ?_)));(try (any_goals (first|(with_reducible rfl)|(refine ah ?_;omega)))))
 · rfl
 intro k hk
 have hll:=nL (PG.Attr (pgA g) who (fun v=>(v : Int) ∈ xs) (fun v=>(v : Int) ∈ ys)) k
 (repeat' (first|(with_reducible first|(refine hK _ _ ?_;clear hK K)|(refine aa _ ?_;clear aa K)|refine bi ?_|refine b8 ?_|refine a9 ?_|refine au ?_|refine aq ?_|refine b9 ?_|refine aI ?_|refine ba ?_|refine ca ?_|refine bc ?_|refine be rfl ?_|refine bj ?_|refine bf ?_|refine cc ?_|refine bg ?_|refine aH ?_|refine n_k ?_|refine bh ?_|(refine ae ?_;clear ae X af Y)|(refine af ?_;clear ae X af Y))|(with_reducible refine bp ?_;first|refine bn rfl ?_|refine bo rfl ?_)|(with_reducible refine a8 ?_;first|refine ax rfl rfl rfl rfl ?_|refine aK rfl rfl rfl ?_|refine bu rfl rfl rfl rfl ?_)|((first|(with_reducible first|refine br rfl rfl fun K hK=>?_|refine bt rfl rfl fun K aa=>?_|refine aJ fun X Y ae af=>?_|refine aL ?_));simp (disch:=first|decide|omega|(simp only [List.length_cons,List.length_nil];omega)) only [go_sem,beq_self_eq_true,↓aj,↓ak hN,am hN,reduceIte,reduceCtorEq,Nat.reduceAdd,Nat.reduceLT,Nat.reduceLeDiff,Nat.reduceEqDiff,Nat.reduceSub])|(with_reducible refine And.intro (fun h=>?_) (fun h=>?_) <;> try (exfalso;omega))|(with_reducible refine bm aO hN rfl ?_ ?_;kernel_rfl)|(with_reducible refine And.intro ?_ ?_)|(refine ah ?_;omega)|(exact bv hN (by decide))))
 · (refine ⟨k + 1,⟨?_,?_⟩,bT hX hN [(1,4)] ?_ ?_⟩;(try any_goals dsimp only);(repeat' (first|(with_reducible first|exact bM _|exact bN|exact bO|refine bP ?_ ?_|refine bQ ?_ ?_|exact ay _|exact bK _|exact ao _|rfl|exact aQ _ _|refine aA ?_|exact bL _|refine aU ?_)|refine bR rfl ?_ ?_|exact aR hN _ rfl rfl rfl|exact aS hN _ rfl rfl rfl|exact aB hN _ rfl rfl rfl (Or.inr rfl)|(refine aT hN _ rfl rfl (by first|exact Or.inr rfl|exact Or.inl rfl) ?_;first|exact aM _|exact aN _)|refine aC hN rfl ?_|refine aD hN rfl rfl ?_|exact az hN _ rfl rfl|exact aE hN rfl rfl rfl rfl|(with_reducible first|refine aP ?_|refine bF ?_|refine bG ?_|refine bH ?_|refine bD ?_|refine bE ?_)));(try (any_goals (first|(with_reducible rfl)|(refine ah ?_;omega)))))
   exact jb ((hat k (by omega)).1 (by omega))
 · (refine ⟨k + 1,⟨?_,?_⟩,bT hX hN [] ?_ ?_⟩;(try any_goals dsimp only);(repeat' (first|(with_reducible first|exact bM _|exact bN|exact bO|refine bP ?_ ?_|refine bQ ?_ ?_|exact ay _|exact bK _|exact ao _|rfl|exact aQ _ _|refine aA ?_|exact bL _|refine aU ?_)|refine bR rfl ?_ ?_|exact aR hN _ rfl rfl rfl|exact aS hN _ rfl rfl rfl|exact aB hN _ rfl rfl rfl (Or.inr rfl)|(refine aT hN _ rfl rfl (by first|exact Or.inr rfl|exact Or.inl rfl) ?_;first|exact aM _|exact aN _)|refine aC hN rfl ?_|refine aD hN rfl rfl ?_|exact az hN _ rfl rfl|exact aE hN rfl rfl rfl rfl|(with_reducible first|refine aP ?_|refine bF ?_|refine bG ?_|refine bH ?_|refine bD ?_|refine bE ?_)));(try (any_goals (first|(with_reducible rfl)|(refine ah ?_;omega)))))
   exact kS fun h=>absurd ((hat k (by omega)).2 h) (by omega)
 · (refine dj hN (i:=1) (.inr rfl) (by first|rfl|(simp (disch:=first|decide|omega|(simp only [List.length_cons,List.length_nil];omega)) only [ct,cz,cB,cD,go_sem,beq_self_eq_true,↓aj,↓ak hN,am hN,reduceIte,reduceCtorEq,Nat.reduceAdd,Nat.reduceLT,Nat.reduceLeDiff,Nat.reduceEqDiff,Nat.reduceSub];rfl)) rfl ?_ rfl)
   rw [show k = g.prio.length by omega];rfl
end Go.Proofs.Ytfaefmabjjndeaa
