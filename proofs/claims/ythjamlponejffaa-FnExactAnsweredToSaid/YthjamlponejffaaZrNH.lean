/-
  RoundOf and AnsweredTo, the reference.
-/
import Derived.Test.YthjamlponejffaaZrNB
import Derived.Test.YthjamlponejffaaZrNC
import Derived.Test.YthjamlponejffaaZrCq
import Derived.Test.YthjamlponejffaaZrShelf2
namespace Go.Proofs.Ythjamlponejffaa
set_option linter.unusedVariables false
set_option linter.unusedSimpArgs false
open Go.RowKit
attribute [local irreducible] aw cu Aw Le
theorem oI {g : Pa} (hg : PaOk g) {xs : List Int} (h : e9 g.ar xs) : PG.Total (pgA g) fun v=>(v : Int) ∈ xs:=by
 intro v hv
 obtain ⟨k,hk,e⟩:=cG hv
 obtain ⟨i,h1,h2⟩:=h.2 k hk
 have h3:=h.1 k hk
 have hl:=hg.len
 rw [e,Int.toNat_natCast] at h1 h2
 obtain ⟨j,hj,e'⟩:=cG h2
 have h4:=h.1 j hj
 rw [e'] at h4
 have e5 : (((gi (gr g.ar.nxt v) i).toNat : Nat) : Int) = gi (gr g.ar.nxt v) i:=Int.toNat_of_nonneg h4.1
 exact ⟨(gi (gr g.ar.nxt v) i).toNat,(iY _ _).2 ⟨by omega,by omega,i,h1,e5.symm⟩,by show _ ∈ xs;rw [e5];exact h2⟩
structure AskF (g : Pa) (xs : List Int) (D : Nat) : Prop where
 inn : ∀ v : Nat,(v : Int) ∈ xs → v < g.prio.length
 tot : PG.Total (pgA g) fun v=>(v : Int) ∈ xs
 low : ∀ v : Nat,(v : Int) ∈ xs → (pgA g).prio v ≤ D
 lis : xs = lst (fun v : Nat=>(v : Int) ∈ xs) g.prio.length
theorem nG {g : Pa} {xs : List Int} {who mine yours : Int} {D : Nat} (h : cP g xs who D mine yours) : AskF g xs D:=by
 obtain ⟨hs,hG,_,_,_,_,ht,_⟩:=h
 have hl:=hs.1.len
 have hi : ∀ v : Nat,(v : Int) ∈ xs → v < g.prio.length:=fun v hv=>by
  obtain ⟨k,hk,e⟩:=cG hv
  have:=hG.1 k hk
  omega
 refine ⟨hi,oI hs.1 hG,fun v hv=>?_,rC ?_ fun x hx=>?_⟩
 · rw [show (pgA g).prio v = gi g.prio v from kv (dS hs.1) (hi v hv)]
   obtain ⟨k,hk,e⟩:=cG hv
   have:=(lI.1 ht).2 k hk
   rwa [e,Int.toNat_natCast] at this
 · refine List.pairwise_iff_getElem.2 fun a b ha hb hab=>?_
   have:=mE hG.1 hab hb
   rwa [dz ha,dz hb] at this
 · obtain ⟨k,hk,e⟩:=cG hx
   have:=hG.1 k hk
   omega
theorem i9 (g : Gm) (n : Nat) (hg : GmOk g n) : ∀ D,D ≤ 64 → oE g n D
 | 0, _ => oF g n hg
 | D + 1, h => oG g n hg D (by omega) (i9 g n hg D (by omega))
open Classical in
noncomputable def ja (g : Pa) (xs : List Int) (who d mine yours : Int) : List Int:=if cP g xs who d mine yours then lst (qR (pgA g) (qA (pgA g) g.prio.length d.toNat) who (d.toNat : Int) mine yours fun v=>(v : Int) ∈ xs) g.prio.length else []
open Classical in
noncomputable def jb (g : Pa) (xs : List Int) (who d mine yours : Int) : List Int:=if cP g xs who d mine yours then lst (qA (pgA g) g.prio.length (d.toNat + 1) who (fun v=>(v : Int) ∈ xs) mine yours) g.prio.length else []
theorem lJ (g : Pa) (xs : List Int) (who d mine yours : Int) : (ja g xs who d mine yours).length ≤ 1048576:=by
 unfold ja
 split
 · rename_i h
   have h1:=h.1.2
   have h2:=cZ (qR (pgA g) (qA (pgA g) g.prio.length d.toNat) who (d.toNat : Int) mine yours fun v=>(v : Int) ∈ xs) g.prio.length
   omega
 · exact Nat.zero_le _
theorem lK (g : Pa) (xs : List Int) (who d mine yours : Int) : (jb g xs who d mine yours).length ≤ 1048576:=by
 unfold jb
 split
 · rename_i h
   have h1:=h.1.2
   have h2:=cZ (qA (pgA g) g.prio.length (d.toNat + 1) who (fun v=>(v : Int) ∈ xs) mine yours) g.prio.length
   omega
 · exact Nat.zero_le _
theorem mN (g : Pa) (xs : List Int) (who mine yours : Int) (D : Nat) (h : cP g xs who D mine yours) : aw Try.prog 18 [paA g,.c (.I xs),.c (.int .i64 who),.c (.int .i64 D),.c (.int .i64 mine),.c (.int .i64 yours)] [.arr 2 .yes (.I (lst (qR (pgA g) (qA (pgA g) g.prio.length D) who D mine yours fun v=>(v : Int) ∈ xs) g.prio.length))] (fun ns=>.sl (ns.getD 0 0)):=by
 obtain ⟨hs,hG,hw,hd0,hd1,_,ht,hm0,hm1,hy0,hy1⟩:=id h
 have hf:=nG h
 have hl:=hs.1.len
 have hle:=hs.2
 have hsl:=cS hG.1 (by omega)
 have h1:=gl g xs who D mine yours
 rw [aA h] at h1
 have h2:=iV g.prio.length xs (by rw [hl];exact hG.1.bnd) (by omega) (by omega)
 have h3:=gI (cY g) g.prio.length (dS hs.1) D (by omega) (i9 _ _ (dS hs.1) D (by omega)) who hw (fun v=>(v : Int) ∈ xs) mine yours (by omega) (by omega) hf.inn hf.tot hf.low
 have h4:=nF g.prio.length (qR (pgA g) (qA (pgA g) g.prio.length D) who D mine yours fun v=>(v : Int) ∈ xs) (by omega)
 change aw _ _ _ [.arr _ _ (.B (mks g.prio.length (qR (pgA g) (qA (pgA g) g.prio.length D) who D mine yours fun v=>(v : Int) ∈ xs)))] _ at h3
 generalize qR (pgA g) (qA (pgA g) g.prio.length D) who D mine yours (fun v=>(v : Int) ∈ xs) = R at *
 have l1:=bw g.prio.length fun v : Nat=>(v : Int) ∈ xs
 have l2:=bw g.prio.length R
 clear ht hf hG
 (refine aV aS Try.func18 rfl rfl (by kernel_rfl) fun hp0 ν hX hN=>?_;simp only [ca,Nat.reduceAdd])
 (repeat' (first|(with_reducible first|(apply hK;clear hK K)|refine stZ ?_|refine aX rfl ?_|((first|apply ae|apply af);clear ae X af Y))|(with_reducible refine a8 ?_;first|refine aY rfl ?_|refine aZ rfl ?_)|(with_reducible refine gY ?_;refine gR hN ?_)|((with_reducible first|((first|refine bc ?_|refine gS ?_|refine bd ?_|refine gT ?_);intro K hK)|(refine aC ?_;intro X Y ae af)|refine aD ?_);simp (disch:=first|decide|omega|(simp only [List.length_cons,List.length_nil];omega)) only [go_sem,↓ak hN,an hN,reduceIte,reduceCtorEq,Nat.reduceAdd,Nat.reduceLT,Nat.reduceLeDiff,Nat.reduceEqDiff,Nat.reduceSub])|(with_reducible refine And.intro (fun h=>?_) (fun h=>?_) <;> try (exfalso;omega))|(with_reducible refine ba aS hN ?_)|(with_reducible refine dQ aS hN ?_)|(refine aB (h1) ?_ rfl (fun _=>rfl) ?_;focus ((repeat' (first|(with_reducible first|exact au|refine ap ?_ ?_|exact bF _|refine aH ?_|exact aJ _|exact bi _ _|refine bh ?_|exact aF _)|exact aI hN rfl rfl|(refine bg hN rfl ?_;first|exact aP _|exact aQ _)|exact aG rfl rfl rfl));done))|(refine ko (mL g hs.1) ?_ rfl rfl ?_)|((first|refine aB (h2) ?_ rfl (fun _=>rfl) ?_|refine aB (h4) ?_ rfl (fun _=>rfl) ?_);focus ((repeat' (first|(with_reducible first|exact au|refine ap ?_ ?_|exact bF _|refine aH ?_|exact aJ _|exact bi _ _|refine bh ?_|exact aF _)|exact aI hN rfl rfl|(refine bg hN rfl ?_;first|exact aP _|exact aQ _)|exact aG rfl rfl rfl));done))|(refine aB (h3) ?_ rfl (fun _=>rfl) ?_;focus ((repeat' (first|(with_reducible first|exact au|refine ap ?_ ?_|exact bF _|refine aH ?_|exact aJ _|exact bi _ _|refine bh ?_|exact aF _)|exact aI hN rfl rfl|(refine bg hN rfl ?_;first|exact aP _|exact aQ _)|exact aG rfl rfl rfl));done))|(with_reducible first|exact au|refine ap ?_ ?_|exact bF _|refine aH ?_|exact aJ _|exact bi _ _|refine bh ?_|exact aF _)|exact aI hN rfl rfl|(refine bg hN rfl ?_;first|exact aP _|exact aQ _)|exact aG rfl rfl rfl|(simp only [aT,List.map_nil])|(with_reducible refine bC ?_)|(with_reducible refine And.intro ?_ ?_)|(refine am ?_;omega)|(exact a9 hN (by decide))))
 all_goals (refine ct hN (i:=3) (.inr rfl) (by first|rfl|(simp (disch:=first|decide|omega|(simp only [List.length_cons,List.length_nil];omega)) only [bH,bM,bP,bQ,go_sem,beq_self_eq_true,↓ax,↓ak hN,an hN,reduceIte,reduceCtorEq,Nat.reduceAdd,Nat.reduceLT,Nat.reduceLeDiff,Nat.reduceEqDiff,Nat.reduceSub];rfl)) rfl ?_ rfl)
 all_goals rfl
theorem lL (g : Pa) (xs : List Int) (who d mine yours : Int) (h : ¬ cP g xs who d mine yours) : aw Try.prog 18 [paA g,.c (.I xs),.c (.int .i64 who),.c (.int .i64 d),.c (.int .i64 mine),.c (.int .i64 yours)] [.arr 2 .yes (.I [])] (fun ns=>.sl (ns.getD 0 0)):=by
 have h1:=gl g xs who d mine yours
 rw [aq h] at h1
 (refine aV aS Try.func18 rfl rfl (by kernel_rfl) fun hp0 ν hX hN=>?_;simp only [ca,Nat.reduceAdd])
 (repeat' (first|(with_reducible first|(apply hK;clear hK K)|refine stZ ?_|refine aX rfl ?_|((first|apply ae|apply af);clear ae X af Y))|(with_reducible refine a8 ?_;first|refine aY rfl ?_|refine aZ rfl ?_)|(with_reducible refine gY ?_;refine gR hN ?_)|((with_reducible first|((first|refine bc ?_|refine gS ?_|refine bd ?_|refine gT ?_);intro K hK)|(refine aC ?_;intro X Y ae af)|refine aD ?_);simp (disch:=first|decide|omega|(simp only [List.length_cons,List.length_nil];omega)) only [go_sem,↓ak hN,an hN,reduceIte,reduceCtorEq,Nat.reduceAdd,Nat.reduceLT,Nat.reduceLeDiff,Nat.reduceEqDiff,Nat.reduceSub])|(with_reducible refine And.intro (fun h=>?_) (fun h=>?_) <;> try (exfalso;omega))|(with_reducible refine ba aS hN ?_)|(with_reducible refine dQ aS hN ?_)|(refine aB (h1) ?_ rfl (fun _=>rfl) ?_;focus ((repeat' (first|(with_reducible first|exact au|refine ap ?_ ?_|exact bF _|refine aH ?_|exact aJ _|exact bi _ _|refine bh ?_|exact aF _)|exact aI hN rfl rfl|(refine bg hN rfl ?_;first|exact aP _|exact aQ _)|exact aG rfl rfl rfl));done))|(with_reducible first|exact au|refine ap ?_ ?_|exact bF _|refine aH ?_|exact aJ _|exact bi _ _|refine bh ?_|exact aF _)|exact aI hN rfl rfl|(refine bg hN rfl ?_;first|exact aP _|exact aQ _)|exact aG rfl rfl rfl|(simp only [aT,List.map_nil])|(with_reducible refine bC ?_)|(with_reducible refine And.intro ?_ ?_)|(refine am ?_;omega)|(exact a9 hN (by decide))))
 all_goals (refine ct hN (i:=1) (.inr rfl) (by first|rfl|(simp (disch:=first|decide|omega|(simp only [List.length_cons,List.length_nil];omega)) only [bH,bM,bP,bQ,go_sem,beq_self_eq_true,↓ax,↓ak hN,an hN,reduceIte,reduceCtorEq,Nat.reduceAdd,Nat.reduceLT,Nat.reduceLeDiff,Nat.reduceEqDiff,Nat.reduceSub];rfl)) rfl ?_ rfl)
 all_goals rfl
theorem lM (g : Pa) (xs : List Int) (who mine yours : Int) (D : Nat) (h : cP g xs who D mine yours) : aw Try.prog 9 [paA g,.c (.I xs),.c (.int .i64 who),.c (.int .i64 D),.c (.int .i64 mine),.c (.int .i64 yours)] [.arr 2 .yes (.I (lst (qA (pgA g) g.prio.length (D + 1) who (fun v=>(v : Int) ∈ xs) mine yours) g.prio.length))] (fun ns=>.sl (ns.getD 0 0)):=by
 obtain ⟨hs,hG,hw,hd0,hd1,_,ht,hm0,hm1,hy0,hy1⟩:=id h
 have hf:=nG h
 have hl:=hs.1.len
 have hle:=hs.2
 have hsl:=cS hG.1 (by omega)
 have h1:=gl g xs who D mine yours
 rw [aA h] at h1
 have h2:=iV g.prio.length xs (by rw [hl];exact hG.1.bnd) (by omega) (by omega)
 have h3:=i9 (cY g) g.prio.length (dS hs.1) (D + 1) (by omega) who (fun v=>(v : Int) ∈ xs) mine yours hw (by omega) (by omega) hf.inn hf.tot (fun v hv=>by have:=hf.low v hv;show (pgA g).prio v ≤ _;omega)
 rw [show ((D + 1 : Nat) : Int) - 1 = D by omega] at h3
 have h4:=nF g.prio.length (qA (pgA g) g.prio.length (D + 1) who (fun v=>(v : Int) ∈ xs) mine yours) (by omega)
 change aw _ _ _ [.arr _ _ (.B (mks g.prio.length (qA (pgA g) g.prio.length (D + 1) who (fun v=>(v : Int) ∈ xs) mine yours)))] _ at h3
 generalize qA (pgA g) g.prio.length (D + 1) who (fun v=>(v : Int) ∈ xs) mine yours = R at *
 have l1:=bw g.prio.length fun v : Nat=>(v : Int) ∈ xs
 have l2:=bw g.prio.length R
 clear ht hf hG
 (refine aV aS Try.func9 rfl rfl (by kernel_rfl) fun hp0 ν hX hN=>?_;simp only [ca,Nat.reduceAdd])
 (repeat' (first|(with_reducible first|(apply hK;clear hK K)|refine stZ ?_|refine aX rfl ?_|((first|apply ae|apply af);clear ae X af Y))|(with_reducible refine a8 ?_;first|refine aY rfl ?_|refine aZ rfl ?_)|(with_reducible refine gY ?_;refine gR hN ?_)|((with_reducible first|((first|refine bc ?_|refine gS ?_|refine bd ?_|refine gT ?_);intro K hK)|(refine aC ?_;intro X Y ae af)|refine aD ?_);simp (disch:=first|decide|omega|(simp only [List.length_cons,List.length_nil];omega)) only [go_sem,↓ak hN,an hN,reduceIte,reduceCtorEq,Nat.reduceAdd,Nat.reduceLT,Nat.reduceLeDiff,Nat.reduceEqDiff,Nat.reduceSub])|(with_reducible refine And.intro (fun h=>?_) (fun h=>?_) <;> try (exfalso;omega))|(with_reducible refine ba aS hN ?_)|(with_reducible refine dQ aS hN ?_)|(refine aB (h1) ?_ rfl (fun _=>rfl) ?_;focus ((repeat' (first|(with_reducible first|exact au|refine ap ?_ ?_|exact bF _|refine aH ?_|exact aJ _|exact bi _ _|refine bh ?_|exact aF _)|exact aI hN rfl rfl|(refine bg hN rfl ?_;first|exact aP _|exact aQ _)|exact aG rfl rfl rfl));done))|(refine ko (mL g hs.1) ?_ rfl rfl ?_)|((first|refine aB (h2) ?_ rfl (fun _=>rfl) ?_|refine aB (h4) ?_ rfl (fun _=>rfl) ?_);focus ((repeat' (first|(with_reducible first|exact au|refine ap ?_ ?_|exact bF _|refine aH ?_|exact aJ _|exact bi _ _|refine bh ?_|exact aF _)|exact aI hN rfl rfl|(refine bg hN rfl ?_;first|exact aP _|exact aQ _)|exact aG rfl rfl rfl));done))|(refine aB (h3) ?_ rfl (fun _=>rfl) ?_;focus ((repeat' (first|(with_reducible first|exact au|refine ap ?_ ?_|exact bF _|refine aH ?_|exact aJ _|exact bi _ _|refine bh ?_|exact aF _)|exact aI hN rfl rfl|(refine bg hN rfl ?_;first|exact aP _|exact aQ _)|exact aG rfl rfl rfl));done))|(with_reducible first|exact au|refine ap ?_ ?_|exact bF _|refine aH ?_|exact aJ _|exact bi _ _|refine bh ?_|exact aF _)|exact aI hN rfl rfl|(refine bg hN rfl ?_;first|exact aP _|exact aQ _)|exact aG rfl rfl rfl|(simp only [aT,List.map_nil])|(with_reducible refine bC ?_)|(with_reducible refine And.intro ?_ ?_)|(refine am ?_;omega)|(exact a9 hN (by decide))))
 all_goals (refine ct hN (i:=3) (.inr rfl) (by first|rfl|(simp (disch:=first|decide|omega|(simp only [List.length_cons,List.length_nil];omega)) only [bH,bM,bP,bQ,go_sem,beq_self_eq_true,↓ax,↓ak hN,an hN,reduceIte,reduceCtorEq,Nat.reduceAdd,Nat.reduceLT,Nat.reduceLeDiff,Nat.reduceEqDiff,Nat.reduceSub];rfl)) rfl ?_ rfl)
 all_goals rfl
theorem kz (g : Pa) (xs : List Int) (who d mine yours : Int) (h : ¬ cP g xs who d mine yours) : aw Try.prog 9 [paA g,.c (.I xs),.c (.int .i64 who),.c (.int .i64 d),.c (.int .i64 mine),.c (.int .i64 yours)] [.arr 2 .yes (.I [])] (fun ns=>.sl (ns.getD 0 0)):=by
 have h1:=gl g xs who d mine yours
 rw [aq h] at h1
 (refine aV aS Try.func9 rfl rfl (by kernel_rfl) fun hp0 ν hX hN=>?_;simp only [ca,Nat.reduceAdd])
 (repeat' (first|(with_reducible first|(apply hK;clear hK K)|refine stZ ?_|refine aX rfl ?_|((first|apply ae|apply af);clear ae X af Y))|(with_reducible refine a8 ?_;first|refine aY rfl ?_|refine aZ rfl ?_)|(with_reducible refine gY ?_;refine gR hN ?_)|((with_reducible first|((first|refine bc ?_|refine gS ?_|refine bd ?_|refine gT ?_);intro K hK)|(refine aC ?_;intro X Y ae af)|refine aD ?_);simp (disch:=first|decide|omega|(simp only [List.length_cons,List.length_nil];omega)) only [go_sem,↓ak hN,an hN,reduceIte,reduceCtorEq,Nat.reduceAdd,Nat.reduceLT,Nat.reduceLeDiff,Nat.reduceEqDiff,Nat.reduceSub])|(with_reducible refine And.intro (fun h=>?_) (fun h=>?_) <;> try (exfalso;omega))|(with_reducible refine ba aS hN ?_)|(with_reducible refine dQ aS hN ?_)|(refine aB (h1) ?_ rfl (fun _=>rfl) ?_;focus ((repeat' (first|(with_reducible first|exact au|refine ap ?_ ?_|exact bF _|refine aH ?_|exact aJ _|exact bi _ _|refine bh ?_|exact aF _)|exact aI hN rfl rfl|(refine bg hN rfl ?_;first|exact aP _|exact aQ _)|exact aG rfl rfl rfl));done))|(with_reducible first|exact au|refine ap ?_ ?_|exact bF _|refine aH ?_|exact aJ _|exact bi _ _|refine bh ?_|exact aF _)|exact aI hN rfl rfl|(refine bg hN rfl ?_;first|exact aP _|exact aQ _)|exact aG rfl rfl rfl|(simp only [aT,List.map_nil])|(with_reducible refine bC ?_)|(with_reducible refine And.intro ?_ ?_)|(refine am ?_;omega)|(exact a9 hN (by decide))))
 all_goals (refine ct hN (i:=1) (.inr rfl) (by first|rfl|(simp (disch:=first|decide|omega|(simp only [List.length_cons,List.length_nil];omega)) only [bH,bM,bP,bQ,go_sem,beq_self_eq_true,↓ax,↓ak hN,an hN,reduceIte,reduceCtorEq,Nat.reduceAdd,Nat.reduceLT,Nat.reduceLeDiff,Nat.reduceEqDiff,Nat.reduceSub];rfl)) rfl ?_ rfl)
 all_goals rfl
end Go.Proofs.Ythjamlponejffaa
