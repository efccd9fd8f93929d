/-
  PromoteWon on both sides, in the old words.
-/
import Derived.Test.YtdkkhhfhdijfmaaZpQB
import Derived.Test.YtdkkhhfhdijfmaaZpYL
import Derived.Test.YtdkkhhfhdijfmaaZpLaw
namespace Go.Proofs.Ytdkkhhfhdijfmaa
set_option linter.unusedVariables false
set_option linter.unusedSimpArgs false
open Go.RowKit
attribute [local irreducible] ay b8 Aw Le
open Classical in

noncomputable def pwN (g : Pa) : List Int:=if cA g then (itS g (nS g)).won else []
theorem ls {g : Pa} (h : cA g) : pwN g = (itS g (nS g)).won:=if_pos h
theorem nI {g : Pa} (h : ¬ cA g) : pwN g = []:=if_neg h
theorem jZ (g : Pa) (hs : cA g) : ay Try.prog 6 [paA g] [] (fun _=>.c (.I (pwN g))):=by
 have h1:=mb g
 rw [bp hs] at h1
 rw [ls hs]
 have hn:=(kv hs).1
 have htl:=mA (nS g + 1) fun k=>nH (itS g k)
 have h2:=mB g hs
 (refine bv aE Try.func6 rfl rfl (by kernel_rfl) fun hp0 ν hX hN=>?_;simp only [cr,Nat.reduceAdd])
 (repeat' (first|(with_reducible first|(apply hK;clear hK K)|refine stZ ?_|refine aP rfl ?_|((first|apply ae|apply af);clear ae X af Y))|(with_reducible refine aS ?_;first|refine aQ rfl ?_|refine aR rfl ?_)|((with_reducible first|((first|refine aV ?_|refine aW ?_);intro K hK)|(refine aB ?_;intro X Y ae af)|refine aC ?_);simp (disch:=first|decide|omega|(simp only [List.length_cons,List.length_nil];omega)) only [go_sem,↓aj hN,ak hN,reduceIte,reduceCtorEq,Nat.reduceAdd,Nat.reduceLT,Nat.reduceLeDiff,Nat.reduceEqDiff,Nat.reduceSub])|(with_reducible refine And.intro (fun h=>?_) (fun h=>?_) <;> try (exfalso;omega))|(with_reducible refine aU aE hN ?_)|(refine bc (h1) ?_ rfl (fun _=>rfl) ?_;focus ((repeat' (first|(with_reducible first|exact aA|refine ax ?_ ?_|exact bO _|refine a8 ?_|exact ba _|exact bA _ _|refine bz ?_|exact aY _)|exact a9 hN rfl rfl|(refine bw hN rfl ?_;first|exact aF _|exact aG _)|exact aZ rfl rfl rfl));done))|(refine ja (h2) ?_ rfl rfl ?_;focus ((repeat' (first|(with_reducible first|exact aA|refine ax ?_ ?_|exact bO _|refine a8 ?_|exact ba _|exact bA _ _|refine bz ?_|exact aY _)|exact a9 hN rfl rfl|(refine bw hN rfl ?_;first|exact aF _|exact aG _)|exact aZ rfl rfl rfl));done))|(with_reducible first|exact aA|refine ax ?_ ?_|exact bO _|refine a8 ?_|exact ba _|exact bA _ _|refine bz ?_|exact aY _)|exact a9 hN rfl rfl|(refine bw hN rfl ?_;first|exact aF _|exact aG _)|exact aZ rfl rfl rfl|(simp only [bt,List.map_nil])|(with_reducible refine bM ?_)|(with_reducible refine And.intro ?_ ?_)|(refine ah ?_;omega)|(exact aT hN (by decide))))
 (refine dz hN [] (by decide) (.inr rfl) (by first|exact cg rfl rfl|exact bV hN rfl rfl rfl rfl|exact bP hN rfl rfl rfl rfl rfl|(simp (disch:=first|decide|omega|(simp only [List.length_cons,List.length_nil];omega)) only [bS,bU,bW,b7,go_sem,beq_self_eq_true,↓az,↓aj hN,ak hN,reduceIte,reduceCtorEq,Nat.reduceAdd,Nat.reduceLT,Nat.reduceLeDiff,Nat.reduceEqDiff,Nat.reduceSub];rfl)|rfl) ?_ fun νs hνs=>?_;(repeat' (first|exact Gone.nil|(refine Gone.cons rfl rfl ?_ ?_)|(with_reducible refine cR ?_)|(with_reducible refine cQ ?_)|(with_reducible refine SVs.cons ?_ ?_)|(with_reducible exact SVs.nil)|(simp only [List.drop,List.take])|(simp (disch:=first|decide|omega) only [↓az,reduceIte,reduceCtorEq,Nat.reduceEqDiff])|(with_reducible exact fi _)|(with_reducible exact cO _)|(exact cP rfl rfl rfl)|(exact cw 0 (by simp) rfl rfl)|(refine dy hN rfl (cS hN (by decide)) ?_)|(with_reducible refine dx ?_)|(with_reducible rfl)|(with_reducible refine fj ?_)|(with_reducible refine fk ?_)|(with_reducible refine fl ?_)|(with_reducible refine fa ?_)|(with_reducible refine fm ?_)|(refine ah ?_;omega))))
theorem j0 (g : Pa) (hs : ¬ cA g) : ay Try.prog 6 [paA g] [.arr 2 .yes (.I [])] (fun ns=>.sl (ns.getD 0 0)):=by
 have h1:=mb g
 rw [aD hs] at h1
 (refine bv aE Try.func6 rfl rfl (by kernel_rfl) fun hp0 ν hX hN=>?_;simp only [cr,Nat.reduceAdd])
 (repeat' (first|(with_reducible first|(apply hK;clear hK K)|refine stZ ?_|refine aP rfl ?_|((first|apply ae|apply af);clear ae X af Y))|(with_reducible refine aS ?_;first|refine aQ rfl ?_|refine aR rfl ?_)|((with_reducible first|((first|refine aV ?_|refine aW ?_);intro K hK)|(refine aB ?_;intro X Y ae af)|refine aC ?_);simp (disch:=first|decide|omega|(simp only [List.length_cons,List.length_nil];omega)) only [go_sem,↓aj hN,ak hN,reduceIte,reduceCtorEq,Nat.reduceAdd,Nat.reduceLT,Nat.reduceLeDiff,Nat.reduceEqDiff,Nat.reduceSub])|(with_reducible refine And.intro (fun h=>?_) (fun h=>?_) <;> try (exfalso;omega))|(with_reducible refine aU aE hN ?_)|(refine bc (h1) ?_ rfl (fun _=>rfl) ?_;focus ((repeat' (first|(with_reducible first|exact aA|refine ax ?_ ?_|exact bO _|refine a8 ?_|exact ba _|exact bA _ _|refine bz ?_|exact aY _)|exact a9 hN rfl rfl|(refine bw hN rfl ?_;first|exact aF _|exact aG _)|exact aZ rfl rfl rfl));done))|(with_reducible first|exact aA|refine ax ?_ ?_|exact bO _|refine a8 ?_|exact ba _|exact bA _ _|refine bz ?_|exact aY _)|exact a9 hN rfl rfl|(refine bw hN rfl ?_;first|exact aF _|exact aG _)|exact aZ rfl rfl rfl|(simp only [bt,List.map_nil])|(with_reducible refine bM ?_)|(with_reducible refine And.intro ?_ ?_)|(refine ah ?_;omega)|(exact aT hN (by decide))))
 (refine db hN (i:=1) (.inr rfl) (by first|rfl|(simp (disch:=first|decide|omega|(simp only [List.length_cons,List.length_nil];omega)) only [bS,bU,bW,b7,go_sem,beq_self_eq_true,↓az,↓aj hN,ak hN,reduceIte,reduceCtorEq,Nat.reduceAdd,Nat.reduceLT,Nat.reduceLeDiff,Nat.reduceEqDiff,Nat.reduceSub];rfl)) rfl ?_ rfl)
 all_goals rfl
theorem j1 (g : Pa) (hs : ¬ cA g) : ay Try.prog 8 [paA g] [] (fun _=>.c .nul):=by
 have h1:=ma g
 rw [aD hs] at h1
 (refine bv aE Try.func8 rfl rfl (by kernel_rfl) fun hp0 ν hX hN=>?_;simp only [cr,Nat.reduceAdd])
 (repeat' (first|(with_reducible first|(apply hK;clear hK K)|refine stZ ?_|refine aP rfl ?_|((first|apply ae|apply af);clear ae X af Y))|(with_reducible refine aS ?_;first|refine aQ rfl ?_|refine aR rfl ?_)|((with_reducible first|((first|refine aV ?_|refine aW ?_);intro K hK)|(refine aB ?_;intro X Y ae af)|refine aC ?_);simp (disch:=first|decide|omega|(simp only [List.length_cons,List.length_nil];omega)) only [go_sem,↓aj hN,ak hN,reduceIte,reduceCtorEq,Nat.reduceAdd,Nat.reduceLT,Nat.reduceLeDiff,Nat.reduceEqDiff,Nat.reduceSub])|(with_reducible refine And.intro (fun h=>?_) (fun h=>?_) <;> try (exfalso;omega))|(with_reducible refine aU aE hN ?_)|(refine bc (h1) ?_ rfl (fun _=>rfl) ?_;focus ((repeat' (first|(with_reducible first|exact aA|refine ax ?_ ?_|exact bO _|refine a8 ?_|exact ba _|exact bA _ _|refine bz ?_|exact aY _)|exact a9 hN rfl rfl|(refine bw hN rfl ?_;first|exact aF _|exact aG _)|exact aZ rfl rfl rfl));done))|(with_reducible first|exact aA|refine ax ?_ ?_|exact bO _|refine a8 ?_|exact ba _|exact bA _ _|refine bz ?_|exact aY _)|exact a9 hN rfl rfl|(refine bw hN rfl ?_;first|exact aF _|exact aG _)|exact aZ rfl rfl rfl|(simp only [bt,List.map_nil])|(with_reducible refine bM ?_)|(with_reducible refine And.intro ?_ ?_)|(refine ah ?_;omega)|(exact aT hN (by decide))))
 (refine dz hN [] (by decide) (.inr rfl) (by first|exact cg rfl rfl|exact bV hN rfl rfl rfl rfl|exact bP hN rfl rfl rfl rfl rfl|(simp (disch:=first|decide|omega|(simp only [List.length_cons,List.length_nil];omega)) only [bS,bU,bW,b7,go_sem,beq_self_eq_true,↓az,↓aj hN,ak hN,reduceIte,reduceCtorEq,Nat.reduceAdd,Nat.reduceLT,Nat.reduceLeDiff,Nat.reduceEqDiff,Nat.reduceSub];rfl)|rfl) ?_ fun νs hνs=>?_;(repeat' (first|exact Gone.nil|(refine Gone.cons rfl rfl ?_ ?_)|(with_reducible refine cR ?_)|(with_reducible refine cQ ?_)|(with_reducible refine SVs.cons ?_ ?_)|(with_reducible exact SVs.nil)|(simp only [List.drop,List.take])|(simp (disch:=first|decide|omega) only [↓az,reduceIte,reduceCtorEq,Nat.reduceEqDiff])|(with_reducible exact fi _)|(with_reducible exact cO _)|(exact cP rfl rfl rfl)|(exact cw 0 (by simp) rfl rfl)|(refine dy hN rfl (cS hN (by decide)) ?_)|(with_reducible refine dx ?_)|(with_reducible rfl)|(with_reducible refine fj ?_)|(with_reducible refine fk ?_)|(with_reducible refine fl ?_)|(with_reducible refine fa ?_)|(with_reducible refine fm ?_)|(refine ah ?_;omega))))
 all_goals rfl
end Go.Proofs.Ytdkkhhfhdijfmaa
namespace Go.Proofs.Ytdkkhhfhdijfmaa
set_option linter.unusedVariables false
set_option linter.unusedSimpArgs false
open Go.RowKit
attribute [local go_sem ↓] Go.wp_at_zero Go.wp_at_succ
def vw (w : World) (xs : List Int) (e : Ending) (w' : World) : Prop:=∃ s n c,e = .returned (.slice s n c) ∧ IsI w' (.slice s n c) xs ∧ Below w.heap.size w w'
theorem qY (x : Value) (g : Pa) (w : World) (hP : IsP w x g) : Calls Try.prog 25 #[x] w fun e w'=>e = .returned (.bool (tf (cA g))) ∧ Below w.heap.size w w' :=
 rM (vs:=[x]) (ma g) (.cons (l7 hP) .nil)
set_option maxRecDepth 100000 in
theorem lu (x : Value) (g : Pa) (hs : cA g) (w : World) (hP : IsP w x g) : Calls Try.prog 8 #[x] w (nJ w (itS g (nS g)).won):=by
 have hP0:=hP
 obtain ⟨_,_,_,rfl,⟨s1,n1,c1,rfl,h1⟩,⟨s2,n2,c2,rfl,h2⟩,⟨s3,n3,c3,rfl,h3⟩⟩:=hP
 have k1:=Lib.hid (bp hs)
 have HS:=Lib.hid hs
 have hn30:=(kv hs).1
 clear hs
 go_enter Try.func8,Try.ntmps8
 go_wp2_with fail
 have hB : Blk (w.alloc (.cells #[.slice s1 n1 c1,.slice s2 n2 c2,.slice s3 n3 c3] 32)) w.heap.size [.slice s1 n1 c1,.slice s2 n2 c2,.slice s3 n3 c3] 32:=eo _ _ _
 have hbw : Below w.heap.size w (w.alloc (.cells #[.slice s1 n1 c1,.slice s2 n2 c2,.slice s3 n3 c3] 32)):=aO _ _
 have hz : w.heap.size ≤ (w.alloc (.cells #[.slice s1 n1 c1,.slice s2 n2 c2,.slice s3 n3 c3] 32)).heap.size:=by simp
 generalize w.alloc (.cells #[.slice s1 n1 c1,.slice s2 n2 c2,.slice s3 n3 c3] 32) = w1 at *
 have b0:=hB.cell 0 rfl
 have b1:=hB.cell 1 rfl
 have b2:=hB.cell 2 rfl
 go_wp2_with (first
  | (go_at_call 25; refine (qY _ _ _ (hP0.below hbw)).mono ?_; rw [k1.out]; rintro e w2 ⟨rfl, hbw2⟩; replace b0 := aL b0 hbw2; replace b1 := aL b1 hbw2; replace b2 := aL b2 hbw2; replace hbw : Below w.heap.size w w2 := hbw.trans (hbw2.mono hbw.size); have hz2 := hbw2.size)
  | (go_at_call 26; refine (nA _ _ HS.out _ (hP0.below hbw)).mono ?_; rintro e w3 ⟨gO, cap, pre, t0, m0, d0, vb, rfl, hrow, hpre, ho, hbw3⟩; replace b0 := aL b0 hbw3; replace b1 := aL b1 hbw3; replace b2 := aL b2 hbw3; replace hbw : Below w.heap.size w w3 := hbw.trans (hbw3.mono hbw.size); have hz3 := hbw3.size; have q0 := ii hrow (j := nS g * 3) (u := .slice t0 m0 d0) (by rw [List.getElem?_append_right (by omega), hpre, Nat.sub_self]; rfl)))
 go_ret
 exact ⟨_,_,_,rfl,bd.mono ho (by omega) (Nat.le_refl _),hbw⟩
theorem ik (x : Value) (g : Pa) (w : World) (hP : IsP w x g) : Calls Try.prog 8 #[x] w (nJ w (pwN g)):=by
 by_cases hs : cA g
 · rw [ls hs];exact lu x g hs w hP
 · rw [nI hs];exact qS (vs:=[x]) (j1 g hs) (.cons (l7 hP) .nil)
theorem ly (x : Value) (g : Pa) (w : World) (hP : IsP w x g) : Calls Try.prog 6 #[x] w (vw w (pwN g)):=by
 by_cases hs : cA g
 · refine (nZ (vs:=[x]) (jZ g hs) (.cons (l7 hP) .nil)).mono ?_
   rintro e w' ⟨v,rfl,⟨O,h⟩,hb⟩
   obtain ⟨s,n,c,rfl,hI⟩:=qj h
   exact ⟨s,n,c,rfl,hI.is,hb⟩
 · rw [nI hs]
   refine (sd (vs:=[x]) (j0 g hs) rfl (.cons (l7 hP) .nil)).mono ?_
   rintro e w' ⟨s,n,c,rfl,ho,hb⟩
   exact ⟨s,n,c,rfl,bd.is ho,hb⟩
theorem ox (g : Pa) : (pwN g).length ≤ 1048576:=by
 by_cases hs : cA g
 · rw [ls hs]
   have h:=(jJ hs (Nat.le_refl _)).lw
   have:=hs.2
   omega
 · rw [nI hs];exact Nat.zero_le _
end Go.Proofs.Ytdkkhhfhdijfmaa
