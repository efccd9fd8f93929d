/-
  The program's worst worths of a plan.
-/
import Derived.Test.YtlodllmpndflcaaZoI5
import Derived.Test.YtlodllmpndflcaaZoNp
import Derived.Test.YtlodllmpndflcaaZoE14
namespace Go.Proofs.Ytlodllmpndflcaa
set_option linter.unusedVariables false
set_option linter.unusedSimpArgs false
open Go.RowKit
attribute [local irreducible] ba cM Aw Le
theorem lM {a : Ar} (ha : ArOk a) {v : Nat} (hv : v < a.own.length) (e : gi a.own v = 1) (hb : cC a 1 v ≤ 4096) : ((cC a 1 v : Nat) : Int) * ((gr a.nxt v).length : Nat) = (cC a 1 (v + 1) : Nat) ∧ (cC a 1 (v + 1) : Nat) ≤ 65536:=by
 have h:=(ha.vert v hv).2.2
 rw [gB e]
 exact ⟨(Int.natCast_mul _ _).symm,Nat.mul_le_mul hb h.2.1⟩
theorem nE (g : Pa) (hg : PaOk g) : ba Try.prog 22 [paA g] [] (fun _=>.c (.int .i64 (ip g.ar))):=by
 have hle:=hg.ar.le
 have hln:=hg.ar.len
 (refine bA aF Try.func22 rfl rfl (by kernel_rfl) fun hp0 ν hX hN=>?_;simp only [cg,Nat.reduceAdd])
 (repeat' (first|(with_reducible first|(apply hK;clear hK K)|refine stZ ?_|refine aO rfl ?_|((first|apply ae|apply af);clear ae X af Y))|(with_reducible refine aR ?_;first|refine aP rfl ?_|refine aQ rfl ?_)|((with_reducible first|((first|refine aU ?_|refine aV ?_);intro K hK)|(refine aC ?_;intro X Y ae af)|refine aD ?_);simp (disch:=first|decide|omega|(simp only [List.length_cons,List.length_nil];omega)) only [go_sem,↓aj hN,an hN,reduceIte,reduceCtorEq,Nat.reduceAdd,Nat.reduceLT,Nat.reduceLeDiff,Nat.reduceEqDiff,Nat.reduceSub])|(with_reducible refine And.intro (fun h=>?_) (fun h=>?_) <;> try (exfalso;omega))|(with_reducible refine aT aF hN ?_)|(with_reducible refine And.intro ?_ ?_)|(refine ak ?_;omega)|(exact aS hN (by decide))))
 (refine cr (fun (k : Nat)=>(tmL [(10,.c (.int .i64 k)),(9,.c (.int .i64 g.ar.nxt.length)),(8,.c (.R g.ar.nxt)),(3,.c (.int .i64 (cC g.ar 1 k : Nat))),(1,.ad (ν 0) 0)],hpL hp0 ν [.box [.c (.I g.ar.own),.c (.R g.ar.nxt),.c (.I g.prio)]])) (fun (k : Nat)=>k ≤ g.ar.own.length ∧ cC g.ar 1 k ≤ 4096) (fun (k : Nat)=>g.ar.own.length - k) ⟨0,?_,bL hX hN [] ?_ ?_⟩ ?_;(repeat' (first|(with_reducible first|exact clZ|refine bM ?_ ?_|refine bN ?_ ?_|rfl|refine suZ ?_)|refine bO rfl ?_ ?_|exact bv hN _ rfl rfl rfl|exact bw hN _ rfl rfl rfl|exact be hN _ rfl rfl rfl (Or.inr rfl)|(refine bx hN _ rfl rfl (by first|exact Or.inr rfl|exact Or.inl rfl) ?_;first|exact aJ _|exact aK _)|refine bf hN rfl ?_|refine bg hN rfl rfl ?_|exact bd hN _ rfl rfl|exact bc hN rfl rfl rfl rfl|(with_reducible first|refine stZ ?_|refine bu ?_)));(try (any_goals (first|(with_reducible rfl)|(refine ak ?_;omega)))))
 · exact ⟨Nat.zero_le _,by show 1 ≤ 4096;omega⟩
 · rfl
 rintro k ⟨hk,hb⟩
 by_cases hkl : k < g.ar.own.length
 · by_cases e : gi g.ar.own k = 1
   · obtain ⟨b1,b2⟩:=lM hg.ar hkl e hb
     have hno:=fun h=>lJ hg.ar (k:=k + 1) hkl h
     (repeat' (first|(with_reducible first|(apply hK;clear hK K)|refine stZ ?_|refine aO rfl ?_|((first|apply ae|apply af);clear ae X af Y))|(with_reducible refine aR ?_;first|refine aP rfl ?_|refine aQ rfl ?_)|((with_reducible first|((first|refine aU ?_|refine aV ?_);intro K hK)|(refine aC ?_;intro X Y ae af)|refine aD ?_);simp (disch:=first|decide|omega|(simp only [List.length_cons,List.length_nil];omega)) only [go_sem,↓aj hN,an hN,reduceIte,reduceCtorEq,Nat.reduceAdd,Nat.reduceLT,Nat.reduceLeDiff,Nat.reduceEqDiff,Nat.reduceSub])|(with_reducible refine And.intro (fun h=>?_) (fun h=>?_) <;> try (exfalso;omega))|(with_reducible refine aT aF hN ?_)|(with_reducible refine And.intro ?_ ?_)|(refine ak ?_;omega)|(exact aS hN (by decide))))
     all_goals first
      | (exact absurd e (cU (by assumption)))
      | ((refine bT (.inr rfl) (by first | rfl | (simp (disch := first | decide | omega | (simp only [List.length_cons, List.length_nil]; omega)) only [bR, bU, bX, bY, go_sem, beq_self_eq_true, ↓aW, ↓aj hN, an hN, reduceIte, reduceCtorEq, Nat.reduceAdd, Nat.reduceLT, Nat.reduceLeDiff, Nat.reduceEqDiff, Nat.reduceSub]; rfl)) ?_); exact congrArg (C.int .i64) (hno (by omega)).symm)
      | ((refine ⟨k + 1, ⟨?_, ?_⟩, bL hX hN [] ?_ ?_⟩; (try any_goals dsimp only); (repeat' (first | (with_reducible first | exact clZ | refine bM ?_ ?_ | refine bN ?_ ?_ | rfl | refine suZ ?_) | refine bO rfl ?_ ?_ | exact bv hN _ rfl rfl rfl | exact bw hN _ rfl rfl rfl | exact be hN _ rfl rfl rfl (Or.inr rfl) | (refine bx hN _ rfl rfl (by first | exact Or.inr rfl | exact Or.inl rfl) ?_; first | exact aJ _ | exact aK _) | refine bf hN rfl ?_ | refine bg hN rfl rfl ?_ | exact bd hN _ rfl rfl | exact bc hN rfl rfl rfl rfl | (with_reducible first | refine stZ ?_ | refine bu ?_))); (try (any_goals (first | (with_reducible rfl) | (refine ak ?_; omega))))); all_goals first | exact ⟨by omega, by omega⟩ | exact b1)
   · have hbn:=hH (a:=g.ar) (w:=1) e
     (repeat' (first|(with_reducible first|(apply hK;clear hK K)|refine stZ ?_|refine aO rfl ?_|((first|apply ae|apply af);clear ae X af Y))|(with_reducible refine aR ?_;first|refine aP rfl ?_|refine aQ rfl ?_)|((with_reducible first|((first|refine aU ?_|refine aV ?_);intro K hK)|(refine aC ?_;intro X Y ae af)|refine aD ?_);simp (disch:=first|decide|omega|(simp only [List.length_cons,List.length_nil];omega)) only [go_sem,↓aj hN,an hN,reduceIte,reduceCtorEq,Nat.reduceAdd,Nat.reduceLT,Nat.reduceLeDiff,Nat.reduceEqDiff,Nat.reduceSub])|(with_reducible refine And.intro (fun h=>?_) (fun h=>?_) <;> try (exfalso;omega))|(with_reducible refine aT aF hN ?_)|(with_reducible refine And.intro ?_ ?_)|(refine ak ?_;omega)|(exact aS hN (by decide))))
     all_goals first
      | (exact absurd (by assumption) e)
      | ((refine ⟨k + 1, ⟨?_, ?_⟩, bL hX hN [] ?_ ?_⟩; (try any_goals dsimp only); (repeat' (first | (with_reducible first | exact clZ | refine bM ?_ ?_ | refine bN ?_ ?_ | rfl | refine suZ ?_) | refine bO rfl ?_ ?_ | exact bv hN _ rfl rfl rfl | exact bw hN _ rfl rfl rfl | exact be hN _ rfl rfl rfl (Or.inr rfl) | (refine bx hN _ rfl rfl (by first | exact Or.inr rfl | exact Or.inl rfl) ?_; first | exact aJ _ | exact aK _) | refine bf hN rfl ?_ | refine bg hN rfl rfl ?_ | exact bd hN _ rfl rfl | exact bc hN rfl rfl rfl rfl | (with_reducible first | refine stZ ?_ | refine bu ?_))); (try (any_goals (first | (with_reducible rfl) | (refine ak ?_; omega))))); all_goals first | exact ⟨by omega, by omega⟩ | rw [hbn])
 · obtain rfl : k = g.ar.own.length:=by omega
   have hok:=je hb
   (repeat' (first|(with_reducible first|(apply hK;clear hK K)|refine stZ ?_|refine aO rfl ?_|((first|apply ae|apply af);clear ae X af Y))|(with_reducible refine aR ?_;first|refine aP rfl ?_|refine aQ rfl ?_)|((with_reducible first|((first|refine aU ?_|refine aV ?_);intro K hK)|(refine aC ?_;intro X Y ae af)|refine aD ?_);simp (disch:=first|decide|omega|(simp only [List.length_cons,List.length_nil];omega)) only [go_sem,↓aj hN,an hN,reduceIte,reduceCtorEq,Nat.reduceAdd,Nat.reduceLT,Nat.reduceLeDiff,Nat.reduceEqDiff,Nat.reduceSub])|(with_reducible refine And.intro (fun h=>?_) (fun h=>?_) <;> try (exfalso;omega))|(with_reducible refine aT aF hN ?_)|(with_reducible refine And.intro ?_ ?_)|(refine ak ?_;omega)|(exact aS hN (by decide))))
   (refine bT (.inr rfl) (by first|rfl|(simp (disch:=first|decide|omega|(simp only [List.length_cons,List.length_nil];omega)) only [bR,bU,bX,bY,go_sem,beq_self_eq_true,↓aW,↓aj hN,an hN,reduceIte,reduceCtorEq,Nat.reduceAdd,Nat.reduceLT,Nat.reduceLeDiff,Nat.reduceEqDiff,Nat.reduceSub];rfl)) ?_)
   exact congrArg (C.int .i64) hok.symm
theorem nF (g : Pa) (hg : PaOk g) : ba Try.prog 31 [paA g] [] (fun _=>.c (.int .i64 (ip g.ar))):=by
 have hle:=hg.ar.le
 have hln:=hg.ar.len
 have hpl:=hg.len
 (refine bA aF Try.func31 rfl rfl (by kernel_rfl) fun hp0 ν hX hN=>?_;simp only [cg,Nat.reduceAdd])
 (repeat' (first|(with_reducible first|(apply hK;clear hK K)|refine stZ ?_|refine aO rfl ?_|((first|apply ae|apply af);clear ae X af Y))|(with_reducible refine aR ?_;first|refine aP rfl ?_|refine aQ rfl ?_)|((with_reducible first|((first|refine aU ?_|refine aV ?_);intro K hK)|(refine aC ?_;intro X Y ae af)|refine aD ?_);simp (disch:=first|decide|omega|(simp only [List.length_cons,List.length_nil];omega)) only [go_sem,↓aj hN,an hN,reduceIte,reduceCtorEq,Nat.reduceAdd,Nat.reduceLT,Nat.reduceLeDiff,Nat.reduceEqDiff,Nat.reduceSub])|(with_reducible refine And.intro (fun h=>?_) (fun h=>?_) <;> try (exfalso;omega))|(with_reducible refine aT aF hN ?_)|(with_reducible refine And.intro ?_ ?_)|(refine ak ?_;omega)|(exact aS hN (by decide))))
 (refine cr (fun (k : Nat)=>(tmL [(4,.c (.int .i64 k)),(3,.c (.int .i64 (cC g.ar 1 k : Nat))),(1,.ad (ν 0) 0)],hpL hp0 ν [.box [.c (.I g.ar.own),.c (.R g.ar.nxt),.c (.I g.prio)]])) (fun (k : Nat)=>k ≤ g.ar.own.length ∧ cC g.ar 1 k ≤ 4096) (fun (k : Nat)=>g.ar.own.length - k) ⟨0,?_,bL hX hN [] ?_ ?_⟩ ?_;(repeat' (first|(with_reducible first|exact clZ|refine bM ?_ ?_|refine bN ?_ ?_|rfl|refine suZ ?_)|refine bO rfl ?_ ?_|exact bv hN _ rfl rfl rfl|exact bw hN _ rfl rfl rfl|exact be hN _ rfl rfl rfl (Or.inr rfl)|(refine bx hN _ rfl rfl (by first|exact Or.inr rfl|exact Or.inl rfl) ?_;first|exact aJ _|exact aK _)|refine bf hN rfl ?_|refine bg hN rfl rfl ?_|exact bd hN _ rfl rfl|exact bc hN rfl rfl rfl rfl|(with_reducible first|refine stZ ?_|refine bu ?_)));(try (any_goals (first|(with_reducible rfl)|(refine ak ?_;omega)))))
 · exact ⟨Nat.zero_le _,by show 1 ≤ 4096;omega⟩
 · rfl
 rintro k ⟨hk,hb⟩
 by_cases hkl : k < g.ar.own.length
 · by_cases e : gi g.ar.own k = 1
   · obtain ⟨b1,b2⟩:=lM hg.ar hkl e hb
     have hno:=fun h=>lJ hg.ar (k:=k + 1) hkl h
     (repeat' (first|(with_reducible first|(apply hK;clear hK K)|refine stZ ?_|refine aO rfl ?_|((first|apply ae|apply af);clear ae X af Y))|(with_reducible refine aR ?_;first|refine aP rfl ?_|refine aQ rfl ?_)|((with_reducible first|((first|refine aU ?_|refine aV ?_);intro K hK)|(refine aC ?_;intro X Y ae af)|refine aD ?_);simp (disch:=first|decide|omega|(simp only [List.length_cons,List.length_nil];omega)) only [go_sem,↓aj hN,an hN,reduceIte,reduceCtorEq,Nat.reduceAdd,Nat.reduceLT,Nat.reduceLeDiff,Nat.reduceEqDiff,Nat.reduceSub])|(with_reducible refine And.intro (fun h=>?_) (fun h=>?_) <;> try (exfalso;omega))|(with_reducible refine aT aF hN ?_)|(with_reducible refine And.intro ?_ ?_)|(refine ak ?_;omega)|(exact aS hN (by decide))))
     all_goals first
      | (exact absurd e (cU (by assumption)))
      | ((refine bT (.inr rfl) (by first | rfl | (simp (disch := first | decide | omega | (simp only [List.length_cons, List.length_nil]; omega)) only [bR, bU, bX, bY, go_sem, beq_self_eq_true, ↓aW, ↓aj hN, an hN, reduceIte, reduceCtorEq, Nat.reduceAdd, Nat.reduceLT, Nat.reduceLeDiff, Nat.reduceEqDiff, Nat.reduceSub]; rfl)) ?_); exact congrArg (C.int .i64) (hno (by omega)).symm)
      | ((refine ⟨k + 1, ⟨?_, ?_⟩, bL hX hN [] ?_ ?_⟩; (try any_goals dsimp only); (repeat' (first | (with_reducible first | exact clZ | refine bM ?_ ?_ | refine bN ?_ ?_ | rfl | refine suZ ?_) | refine bO rfl ?_ ?_ | exact bv hN _ rfl rfl rfl | exact bw hN _ rfl rfl rfl | exact be hN _ rfl rfl rfl (Or.inr rfl) | (refine bx hN _ rfl rfl (by first | exact Or.inr rfl | exact Or.inl rfl) ?_; first | exact aJ _ | exact aK _) | refine bf hN rfl ?_ | refine bg hN rfl rfl ?_ | exact bd hN _ rfl rfl | exact bc hN rfl rfl rfl rfl | (with_reducible first | refine stZ ?_ | refine bu ?_))); (try (any_goals (first | (with_reducible rfl) | (refine ak ?_; omega))))); all_goals first | exact ⟨by omega, by omega⟩ | exact b1)
   · have hbn:=hH (a:=g.ar) (w:=1) e
     (repeat' (first|(with_reducible first|(apply hK;clear hK K)|refine stZ ?_|refine aO rfl ?_|((first|apply ae|apply af);clear ae X af Y))|(with_reducible refine aR ?_;first|refine aP rfl ?_|refine aQ rfl ?_)|((with_reducible first|((first|refine aU ?_|refine aV ?_);intro K hK)|(refine aC ?_;intro X Y ae af)|refine aD ?_);simp (disch:=first|decide|omega|(simp only [List.length_cons,List.length_nil];omega)) only [go_sem,↓aj hN,an hN,reduceIte,reduceCtorEq,Nat.reduceAdd,Nat.reduceLT,Nat.reduceLeDiff,Nat.reduceEqDiff,Nat.reduceSub])|(with_reducible refine And.intro (fun h=>?_) (fun h=>?_) <;> try (exfalso;omega))|(with_reducible refine aT aF hN ?_)|(with_reducible refine And.intro ?_ ?_)|(refine ak ?_;omega)|(exact aS hN (by decide))))
     all_goals first
      | (exact absurd (by assumption) e)
      | ((refine ⟨k + 1, ⟨?_, ?_⟩, bL hX hN [] ?_ ?_⟩; (try any_goals dsimp only); (repeat' (first | (with_reducible first | exact clZ | refine bM ?_ ?_ | refine bN ?_ ?_ | rfl | refine suZ ?_) | refine bO rfl ?_ ?_ | exact bv hN _ rfl rfl rfl | exact bw hN _ rfl rfl rfl | exact be hN _ rfl rfl rfl (Or.inr rfl) | (refine bx hN _ rfl rfl (by first | exact Or.inr rfl | exact Or.inl rfl) ?_; first | exact aJ _ | exact aK _) | refine bf hN rfl ?_ | refine bg hN rfl rfl ?_ | exact bd hN _ rfl rfl | exact bc hN rfl rfl rfl rfl | (with_reducible first | refine stZ ?_ | refine bu ?_))); (try (any_goals (first | (with_reducible rfl) | (refine ak ?_; omega))))); all_goals first | exact ⟨by omega, by omega⟩ | rw [hbn])
 · obtain rfl : k = g.ar.own.length:=by omega
   have hok:=je hb
   (repeat' (first|(with_reducible first|(apply hK;clear hK K)|refine stZ ?_|refine aO rfl ?_|((first|apply ae|apply af);clear ae X af Y))|(with_reducible refine aR ?_;first|refine aP rfl ?_|refine aQ rfl ?_)|((with_reducible first|((first|refine aU ?_|refine aV ?_);intro K hK)|(refine aC ?_;intro X Y ae af)|refine aD ?_);simp (disch:=first|decide|omega|(simp only [List.length_cons,List.length_nil];omega)) only [go_sem,↓aj hN,an hN,reduceIte,reduceCtorEq,Nat.reduceAdd,Nat.reduceLT,Nat.reduceLeDiff,Nat.reduceEqDiff,Nat.reduceSub])|(with_reducible refine And.intro (fun h=>?_) (fun h=>?_) <;> try (exfalso;omega))|(with_reducible refine aT aF hN ?_)|(with_reducible refine And.intro ?_ ?_)|(refine ak ?_;omega)|(exact aS hN (by decide))))
   (refine bT (.inr rfl) (by first|rfl|(simp (disch:=first|decide|omega|(simp only [List.length_cons,List.length_nil];omega)) only [bR,bU,bX,bY,go_sem,beq_self_eq_true,↓aW,↓aj hN,an hN,reduceIte,reduceCtorEq,Nat.reduceAdd,Nat.reduceLT,Nat.reduceLeDiff,Nat.reduceEqDiff,Nat.reduceSub];rfl)) ?_)
   exact congrArg (C.int .i64) hok.symm
theorem fK {g : Pa} (h : cF g ≤ 4096) : ip g.ar = (cF g : Nat):=je h
def wC (a : Wt) : List C:=[.int .i64 a.hd,.nn (.I a.ov),.int .i64 a.wy]
def wZ : List C:=[.int .i64 0,.nul,.int .i64 0]
def cE (n : Nat) (f : Nat → List C) : List (List C):=(List.range n).map f
theorem lN (n : Nat) (f : Nat → List C) : (cE n f).length = n:=by simp [cE]
theorem gE {n : Nat} {f : Nat → List C} {i : Nat} (h : i < n) : (cE n f).getD i [] = f i:=by
 simp [cE,List.getD_eq_getElem?_getD,List.getElem?_eq_getElem (show i < (List.map f (List.range n)).length by simpa using h)]
theorem dZ {n : Nat} {f h : Nat → List C} (e : ∀ i,i < n → f i = h i) : cE n f = cE n h:=by
 refine List.ext_getElem (by simp [cE]) fun i h1 h2=>?_
 simp only [cE,List.length_map,List.length_range] at h1
 simp [cE,e i h1]
theorem qE {n k : Nat} {f : Nat → List C} {x : List C} : (cE n f).set k x = cE n fun i=>if i = k then x else f i:=by
 refine List.ext_getElem (by simp [cE]) fun i h1 h2=>?_
 simp only [cE,List.length_map,List.length_set,List.length_range] at h1
 rw [List.getElem_set]
 by_cases e : k = i
 · subst e;simp [cE]
 · rw [if_neg e];simp [cE,show ¬ i = k from fun h=>e h.symm]
theorem oQ (n : Nat) (f : Nat → List C) : cE (n + 1) f = cE n f ++ [f n]:=by simp [cE,List.range_succ]
noncomputable def oC (g : Pa) (σ : List Int) (k u : Nat) : List C:=if k = 0 then wZ else wC (wst g σ k u)
noncomputable def oF (g : Pa) (σ : List Int) (k v u : Nat) : List C:=if u < v then oC g σ (k + 1) u else oC g σ k u
theorem xa (g : Pa) (σ : List Int) (k u : Nat) : oC g σ (k + 1) u = wC (wst g σ (k + 1) u):=rfl
theorem vA {g : Pa} {σ : List Int} {k v : Nat} : oF g σ k v v = oC g σ k v:=if_neg (Nat.lt_irrefl _)
theorem xb (g : Pa) (σ : List Int) (u : Nat) : oC g σ 0 u = wZ:=rfl
theorem vB (a : Wt) : (wC a).getD 0 .nul = .int .i64 a.hd:=rfl
theorem vC (a : Wt) : (wC a).getD 1 .nul = .nn (.I a.ov):=rfl
theorem vD (a : Wt) : (wC a).getD 2 .nul = .int .i64 a.wy:=rfl
theorem xc : wZ.getD 0 .nul = .int .i64 0:=rfl
theorem xd : wZ.getD 1 .nul = .nul:=rfl
theorem xe : wZ.getD 2 .nul = .int .i64 0:=rfl
theorem mK {xs : List Int} {n : Nat} (h : xs.length = n) : (tab n fun u=>gi xs u) = xs:=(iK h fun _ _=>rfl).symm
theorem qG {n k : Nat} {f d : Nat → Int} (hv : f k = d k) : (tab n fun i=>if i < k + 1 then f i else d i) = tab n fun i=>if i < k then f i else d i :=
 cX fun j hj=>by
  by_cases e : j = k
  · subst e;rw [if_pos (by omega),if_neg (by omega),hv]
  · by_cases h : j < k
    · rw [if_pos h,if_pos (by omega)]
    · rw [if_neg h,if_neg (by omega)]
theorem nG {g : Pa} {σ : List Int} {k v : Nat} (hk : k ≠ 0) (h : d6 g (wst g σ k v) (phi g σ k v)) : wst g σ (k + 1) v = phi g σ k v:=by
 show (if _ then _ else _) = _;rw [if_neg hk,aA h,gT]
theorem qH {g : Pa} {σ : List Int} {k v : Nat} (hk : k ≠ 0) (h : ¬ d6 g (wst g σ k v) (phi g σ k v)) : wst g σ (k + 1) v = wst g σ k v:=by
 show (if _ then _ else _) = _;rw [if_neg hk,ao h,fO]
theorem qI {g : Pa} (hg : PaOk g) {σ τ : List Int} (h0 : cz g.ar 0 σ) (h1 : cz g.ar 1 τ) {x : Nat} (hx : x < g.prio.length) : max (gi σ x) (gi τ x) = (nxP g.ar σ τ x : Nat) ∧ nxP g.ar σ τ x < g.prio.length:=by
 obtain ⟨_,s2,s3⟩:=jd hg h0 h1 hx
 refine ⟨?_,s2⟩
 have hl:=hg.len
 have hv:=hg.ar.vert x (by omega)
 have a0:=h0.1.2 x (by have:=h0.1.1;omega)
 have a1:=h1.1.2 x (by have:=h1.1.1;omega)
 rw [s3]
 split
 · rename_i e
   have : gi τ x = -1:=a1.elim id fun h=>by have:=h.1;omega
   have:=h0.2 x (by have:=h0.1.1;omega) e
   omega
 · rename_i e
   have : gi σ x = -1:=a0.elim id fun h=>by have:=h.1;omega
   have:=h1.2 x (by have:=h1.1.1;omega) (by omega)
   omega
theorem sv {k b n : Nat} (hn : 0 < n) : ((k / b : Nat) : Int).tmod (n : Int) = ((k / b % n : Nat) : Int) ∧ ((k / b : Nat) : Int).tdiv (n : Int) = ((k / (b * n) : Nat) : Int) ∧ k / b % n < n:=by
 refine ⟨(Int.ofNat_tmod _ _).symm,?_,Nat.mod_lt _ hn⟩
 rw [← Nat.div_div_eq_div_mul]
 exact (Int.ofNat_tdiv _ _).symm
section
variable {g : Pa} (hs : dU g) {f : Nat → Nat} (hf : ∀ x,x < g.prio.length → f x < g.prio.length) {v : Nat} (hv : v < g.prio.length)
include hs hf hv
theorem oR : ba Try.prog 40 [paA g,.agg [.c (.I (eF (itF f v) g.prio.length)),.c (.I (cT (itF f v) g.prio.length))]] [.arr 2 .may (.I (wtF g f v).ov)] (fun ns=>.agg [.c (.int .i64 (wtF g f v).hd),.sl (ns.getD 0 0),.c (.int .i64 (wtF g f v).wy)]):=by
 obtain ⟨a1,a2,a3,a4,a5,a6,a7,a8⟩:=tG hf hv
 have h:=mJ g hs.1 _ _ a1 (by have:=hs.2;omega) a3 (wyF g f v) a5 (by rw [a4];exact a6) (by rw [a4];exact a7)
 rw [a4,a8] at h
 exact h
end
attribute [local go_sem] gE vA xb xa vB vC vD xc xd xe
end Go.Proofs.Ytlodllmpndflcaa
