/-
  WorthsOf on both sides, in the old words.
-/
import Derived.Test.YtlodllmpndflcaaZoZE
import Derived.Test.YtlodllmpndflcaaZoZC
import Derived.Test.YtlodllmpndflcaaZoIC
namespace Go.Proofs.Ytlodllmpndflcaa
set_option linter.unusedVariables false
set_option linter.unusedSimpArgs false
open Go.RowKit
attribute [local irreducible] ba cM Aw Le
attribute [local go_sem ↓] Go.wp_at_zero Go.wp_at_succ
open Classical in

noncomputable def wsN (g : Pa) (σ : List Int) : Wg:=if dt g σ then (g.prio.length,WW g σ) else (0,WW g σ)
theorem kU {g : Pa} {σ : List Int} (h : dt g σ) : wsN g σ = (g.prio.length,WW g σ):=if_pos h
theorem mT {g : Pa} {σ : List Int} (h : ¬ dt g σ) : wsN g σ = (0,WW g σ):=if_neg h
theorem nL {f : Nat → Wt} {b : Nat} : ∀ n,(∀ k,k < n → (f k).ov.length + 2 ≤ b) → cx f n ≤ n * b
 | 0, _ => Nat.zero_le _
 | n + 1, h => by
   have h1:=nL n fun k hk=>h k (by omega)
   have h2:=h n (by omega)
   rw [Nat.add_mul,Nat.one_mul]
   show cx f n + _ ≤ _
   omega
theorem ra (g : Pa) (σ : List Int) : mQ (wsN g σ):=by
 by_cases h : dt g σ
 · rw [kU h]
   have hs:=h.1.1
   have h2:=hs.2
   have hl : ∀ j,j < g.prio.length → (WW g σ j).ov.length ≤ 12:=fun j hj=>by
    have hO:=jx (vz hs h.2 hj).ov (by omega)
    omega
   refine ⟨by show g.prio.length ≤ _;omega,fun j hj=>by have:=hl j hj;show (WW g σ j).ov.length ≤ _;omega,?_⟩
   have:=nL (f:=WW g σ) (b:=14) g.prio.length fun k hk=>by have:=hl k hk;omega
   show cx (WW g σ) g.prio.length ≤ _
   omega
 · rw [mT h]
   exact ⟨Nat.zero_le _,fun j hj=>absurd hj (Nat.not_lt_zero _),Nat.zero_le _⟩
theorem rb (x : Value) (g : Pa) (w : World) (hP : IsP w x g) : Calls Try.prog 21 #[x] w fun e w'=>e = .returned (.bool (tf (dU g))) ∧ Below w.heap.size w w' :=
 kE (vs:=[x]) (lF g) (.cons (oy hP) .nil)
theorem sj (g : Pa) (σ : List Int) (h : ¬ dt g σ) : ba Try.prog 8 [paA g,.c (.I σ)] [] (fun _=>.c .nul):=by
 have c1:=lF g
 by_cases hs : dU g
 · rw [aA hs] at c1
   have c2:=nE g hs.1
   by_cases hr : cF g ≤ 4096
   · rw [fK hr] at c2
     have c3:=j3 g.ar hs.1.ar 0 σ
     rw [ao fun h0=>h ⟨⟨hs,hr⟩,h0⟩] at c3
     (refine bA aF Try.func8 rfl rfl (by kernel_rfl) fun hp0 ν hX hN=>?_;simp only [cg,Nat.reduceAdd])
     (repeat' (first|(with_reducible first|(apply hK;clear hK K)|refine stZ ?_|refine aO rfl ?_|((first|apply ae|apply af);clear ae X af Y))|(with_reducible refine aR ?_;first|refine aP rfl ?_|refine aQ rfl ?_)|(with_reducible refine bi ?_;first|refine aM rfl rfl rfl rfl ?_|refine bh rfl rfl rfl ?_|refine bz rfl rfl rfl rfl ?_)|((first|(with_reducible first|((first|refine aU ?_|refine aV ?_);intro K hK)|(refine aC ?_;intro X Y ae af)|refine aD ?_)|(with_reducible refine bi ?_;refine aN rfl rfl fun X Y ae af=>?_));simp (disch:=first|decide|omega|(simp only [List.length_cons,List.length_nil];omega)) only [go_sem,↓aj hN,an hN,reduceIte,reduceCtorEq,Nat.reduceAdd,Nat.reduceLT,Nat.reduceLeDiff,Nat.reduceEqDiff,Nat.reduceSub])|(with_reducible refine And.intro (fun h=>?_) (fun h=>?_) <;> try (exfalso;omega))|(with_reducible refine aT aF hN ?_)|((first|refine aE (c1) ?_ rfl (fun _=>rfl) ?_|refine aE (c2) ?_ rfl (fun _=>rfl) ?_|refine aE (c3) ?_ rfl (fun _=>rfl) ?_);focus ((repeat' (first|(with_reducible first|exact am|refine ah ?_ ?_|exact aZ _|refine ay ?_|exact ax _|exact aI _ _|refine aH ?_|exact au _)|exact az hN rfl rfl|(refine aG hN rfl ?_;first|exact aJ _|exact aK _)|exact aw rfl rfl rfl));done))|(with_reducible first|exact am|refine ah ?_ ?_|exact aZ _|refine ay ?_|exact ax _|exact aI _ _|refine aH ?_|exact au _)|exact az hN rfl rfl|(refine aG hN rfl ?_;first|exact aJ _|exact aK _)|exact aw rfl rfl rfl|(simp only [aY,List.map_nil])|(with_reducible refine bm ?_)|(with_reducible refine And.intro ?_ ?_)|(refine ak ?_;omega)|(exact aS hN (by decide))))
     (refine jW hN [] (by decide) (.inr rfl) (by first|exact eC rfl rfl|exact dM hN rfl rfl rfl rfl|exact dm hN rfl rfl rfl rfl rfl|(simp (disch:=first|decide|omega|(simp only [List.length_cons,List.length_nil];omega)) only [bR,bU,bX,bY,go_sem,beq_self_eq_true,↓aW,↓aj hN,an hN,reduceIte,reduceCtorEq,Nat.reduceAdd,Nat.reduceLT,Nat.reduceLeDiff,Nat.reduceEqDiff,Nat.reduceSub];rfl)|rfl) ?_ fun νs hνs=>?_;(repeat' (first|exact Gone.nil|(refine Gone.cons rfl rfl ?_ ?_)|(with_reducible refine gY ?_)|(with_reducible refine gX ?_)|(with_reducible refine SVs.cons ?_ ?_)|(with_reducible exact SVs.nil)|(simp only [List.drop,List.take])|(simp (disch:=first|decide|omega) only [↓aW,reduceIte,reduceCtorEq,Nat.reduceEqDiff])|(with_reducible exact oz _)|(with_reducible exact gU _)|(exact gV rfl rfl rfl)|(exact jV 0 (by simp) rfl rfl)|(refine jU hN rfl (gZ hN (by decide)) ?_)|(with_reducible refine jT ?_)|(with_reducible rfl)|(with_reducible refine oB ?_)|(with_reducible refine oD ?_)|(with_reducible refine oE ?_)|(with_reducible refine oG ?_)|(with_reducible refine fP ?_)|(refine ak ?_;omega))))
   · rw [nK hr] at c2
     (refine bA aF Try.func8 rfl rfl (by kernel_rfl) fun hp0 ν hX hN=>?_;simp only [cg,Nat.reduceAdd])
     (repeat' (first|(with_reducible first|(apply hK;clear hK K)|refine stZ ?_|refine aO rfl ?_|((first|apply ae|apply af);clear ae X af Y))|(with_reducible refine aR ?_;first|refine aP rfl ?_|refine aQ rfl ?_)|(with_reducible refine bi ?_;first|refine aM rfl rfl rfl rfl ?_|refine bh rfl rfl rfl ?_|refine bz rfl rfl rfl rfl ?_)|((first|(with_reducible first|((first|refine aU ?_|refine aV ?_);intro K hK)|(refine aC ?_;intro X Y ae af)|refine aD ?_)|(with_reducible refine bi ?_;refine aN rfl rfl fun X Y ae af=>?_));simp (disch:=first|decide|omega|(simp only [List.length_cons,List.length_nil];omega)) only [go_sem,↓aj hN,an hN,reduceIte,reduceCtorEq,Nat.reduceAdd,Nat.reduceLT,Nat.reduceLeDiff,Nat.reduceEqDiff,Nat.reduceSub])|(with_reducible refine And.intro (fun h=>?_) (fun h=>?_) <;> try (exfalso;omega))|(with_reducible refine aT aF hN ?_)|((first|refine aE (c1) ?_ rfl (fun _=>rfl) ?_|refine aE (c2) ?_ rfl (fun _=>rfl) ?_);focus ((repeat' (first|(with_reducible first|exact am|refine ah ?_ ?_|exact aZ _|refine ay ?_|exact ax _|exact aI _ _|refine aH ?_|exact au _)|exact az hN rfl rfl|(refine aG hN rfl ?_;first|exact aJ _|exact aK _)|exact aw rfl rfl rfl));done))|(with_reducible first|exact am|refine ah ?_ ?_|exact aZ _|refine ay ?_|exact ax _|exact aI _ _|refine aH ?_|exact au _)|exact az hN rfl rfl|(refine aG hN rfl ?_;first|exact aJ _|exact aK _)|exact aw rfl rfl rfl|(simp only [aY,List.map_nil])|(with_reducible refine bm ?_)|(with_reducible refine And.intro ?_ ?_)|(refine ak ?_;omega)|(exact aS hN (by decide))))
     (refine jW hN [] (by decide) (.inr rfl) (by first|exact eC rfl rfl|exact dM hN rfl rfl rfl rfl|exact dm hN rfl rfl rfl rfl rfl|(simp (disch:=first|decide|omega|(simp only [List.length_cons,List.length_nil];omega)) only [bR,bU,bX,bY,go_sem,beq_self_eq_true,↓aW,↓aj hN,an hN,reduceIte,reduceCtorEq,Nat.reduceAdd,Nat.reduceLT,Nat.reduceLeDiff,Nat.reduceEqDiff,Nat.reduceSub];rfl)|rfl) ?_ fun νs hνs=>?_;(repeat' (first|exact Gone.nil|(refine Gone.cons rfl rfl ?_ ?_)|(with_reducible refine gY ?_)|(with_reducible refine gX ?_)|(with_reducible refine SVs.cons ?_ ?_)|(with_reducible exact SVs.nil)|(simp only [List.drop,List.take])|(simp (disch:=first|decide|omega) only [↓aW,reduceIte,reduceCtorEq,Nat.reduceEqDiff])|(with_reducible exact oz _)|(with_reducible exact gU _)|(exact gV rfl rfl rfl)|(exact jV 0 (by simp) rfl rfl)|(refine jU hN rfl (gZ hN (by decide)) ?_)|(with_reducible refine jT ?_)|(with_reducible rfl)|(with_reducible refine oB ?_)|(with_reducible refine oD ?_)|(with_reducible refine oE ?_)|(with_reducible refine oG ?_)|(with_reducible refine fP ?_)|(refine ak ?_;omega))))
 · rw [ao hs] at c1
   (refine bA aF Try.func8 rfl rfl (by kernel_rfl) fun hp0 ν hX hN=>?_;simp only [cg,Nat.reduceAdd])
   (repeat' (first|(with_reducible first|(apply hK;clear hK K)|refine stZ ?_|refine aO rfl ?_|((first|apply ae|apply af);clear ae X af Y))|(with_reducible refine aR ?_;first|refine aP rfl ?_|refine aQ rfl ?_)|(with_reducible refine bi ?_;first|refine aM rfl rfl rfl rfl ?_|refine bh rfl rfl rfl ?_|refine bz rfl rfl rfl rfl ?_)|((first|(with_reducible first|((first|refine aU ?_|refine aV ?_);intro K hK)|(refine aC ?_;intro X Y ae af)|refine aD ?_)|(with_reducible refine bi ?_;refine aN rfl rfl fun X Y ae af=>?_));simp (disch:=first|decide|omega|(simp only [List.length_cons,List.length_nil];omega)) only [go_sem,↓aj hN,an hN,reduceIte,reduceCtorEq,Nat.reduceAdd,Nat.reduceLT,Nat.reduceLeDiff,Nat.reduceEqDiff,Nat.reduceSub])|(with_reducible refine And.intro (fun h=>?_) (fun h=>?_) <;> try (exfalso;omega))|(with_reducible refine aT aF hN ?_)|(refine aE (c1) ?_ rfl (fun _=>rfl) ?_;focus ((repeat' (first|(with_reducible first|exact am|refine ah ?_ ?_|exact aZ _|refine ay ?_|exact ax _|exact aI _ _|refine aH ?_|exact au _)|exact az hN rfl rfl|(refine aG hN rfl ?_;first|exact aJ _|exact aK _)|exact aw rfl rfl rfl));done))|(with_reducible first|exact am|refine ah ?_ ?_|exact aZ _|refine ay ?_|exact ax _|exact aI _ _|refine aH ?_|exact au _)|exact az hN rfl rfl|(refine aG hN rfl ?_;first|exact aJ _|exact aK _)|exact aw rfl rfl rfl|(simp only [aY,List.map_nil])|(with_reducible refine bm ?_)|(with_reducible refine And.intro ?_ ?_)|(refine ak ?_;omega)|(exact aS hN (by decide))))
   (refine jW hN [] (by decide) (.inr rfl) (by first|exact eC rfl rfl|exact dM hN rfl rfl rfl rfl|exact dm hN rfl rfl rfl rfl rfl|(simp (disch:=first|decide|omega|(simp only [List.length_cons,List.length_nil];omega)) only [bR,bU,bX,bY,go_sem,beq_self_eq_true,↓aW,↓aj hN,an hN,reduceIte,reduceCtorEq,Nat.reduceAdd,Nat.reduceLT,Nat.reduceLeDiff,Nat.reduceEqDiff,Nat.reduceSub];rfl)|rfl) ?_ fun νs hνs=>?_;(repeat' (first|exact Gone.nil|(refine Gone.cons rfl rfl ?_ ?_)|(with_reducible refine gY ?_)|(with_reducible refine gX ?_)|(with_reducible refine SVs.cons ?_ ?_)|(with_reducible exact SVs.nil)|(simp only [List.drop,List.take])|(simp (disch:=first|decide|omega) only [↓aW,reduceIte,reduceCtorEq,Nat.reduceEqDiff])|(with_reducible exact oz _)|(with_reducible exact gU _)|(exact gV rfl rfl rfl)|(exact jV 0 (by simp) rfl rfl)|(refine jU hN rfl (gZ hN (by decide)) ?_)|(with_reducible refine jT ?_)|(with_reducible rfl)|(with_reducible refine oB ?_)|(with_reducible refine oD ?_)|(with_reducible refine oE ?_)|(with_reducible refine oG ?_)|(with_reducible refine fP ?_)|(refine ak ?_;omega))))
theorem sk (x y : Value) (a : Ar) (ha : ArOk a) (σ : List Int) (w : World) (hA : IsA w x a) (hI : IsI w y σ) : Calls Try.prog 23 #[x,.int .i64 0,y] w fun e w'=>e = .returned (.bool (tf (cz a 0 σ))) ∧ Below w.heap.size w w' :=
 kE (vs:=[x,_,y]) (j3 a ha 0 σ) (.cons (vf hA) (.cons (mz _ _) (.cons (iu hI) .nil)))
set_option maxRecDepth 100000 in
theorem mU (x y : Value) (g : Pa) (σ : List Int) (h : dt g σ) (w : World) (hP : IsP w x g) (hI : IsI w y σ) : Calls Try.prog 8 #[x,y] w (sy w g.prio.length (WW g σ)):=by
 have hP0:=hP
 have hI0:=hI
 obtain ⟨_,_,_,rfl,⟨s1,n1,c1,rfl,h1⟩,⟨s2,n2,c2,rfl,h2⟩,⟨s3,n3,c3,rfl,h3⟩⟩:=hP
 obtain ⟨s4,n4,c4,rfl,h4⟩:=hI
 have k1:=Lib.hid (aA h.1.1)
 have k3:=Lib.hid (aA h.2)
 have HH:=Lib.hid h
 have hnn : ¬ ((cF g : Nat) : Int) < 0:=by omega
 clear h
 go_enter Try.func8,Try.ntmps8
 go_wp2_with fail
 have hB : Blk (w.alloc (.cells #[.slice s1 n1 c1,.slice s2 n2 c2,.slice s3 n3 c3] 33)) w.heap.size [.slice s1 n1 c1,.slice s2 n2 c2,.slice s3 n3 c3] 33:=eM _ _ _
 have hbw : Below w.heap.size w (w.alloc (.cells #[.slice s1 n1 c1,.slice s2 n2 c2,.slice s3 n3 c3] 33)):=aL _ _
 have hz : w.heap.size ≤ (w.alloc (.cells #[.slice s1 n1 c1,.slice s2 n2 c2,.slice s3 n3 c3] 33)).heap.size:=by simp
 generalize w.alloc (.cells #[.slice s1 n1 c1,.slice s2 n2 c2,.slice s3 n3 c3] 33) = w1 at *
 have b0:=hB.cell 0 rfl
 have b1:=hB.cell 1 rfl
 have b2:=hB.cell 2 rfl
 go_wp2_with (first
  | (go_at_call 21; refine (rb _ _ _ (hP0.below hbw)).mono ?_; rw [k1.out]; rintro e w2 ⟨rfl, hbw2⟩; replace b0 := aq b0 hbw2; replace b1 := aq b1 hbw2; replace b2 := aq b2 hbw2; replace hbw : Below w.heap.size w w2 := hbw.trans (hbw2.mono hbw.size); have hz2 := hbw2.size)
  | (go_at_call 22; refine (qJ _ _ HH.out.1.1.1 HH.out.1.2 _ (hP0.below hbw)).mono ?_; rintro e w3 ⟨rfl, hbw3⟩; replace b0 := aq b0 hbw3; replace b1 := aq b1 hbw3; replace b2 := aq b2 hbw3; replace hbw : Below w.heap.size w w3 := hbw.trans (hbw3.mono hbw.size); have hz3 := hbw3.size)
  | (go_at_call 23; refine (sk _ _ _ HH.out.1.1.1.ar _ _ (hP0.below hbw).arena (hI0.below hbw)).mono ?_; rw [k3.out]; rintro e w4 ⟨rfl, hbw4⟩; replace b0 := aq b0 hbw4; replace b1 := aq b1 hbw4; replace b2 := aq b2 hbw4; replace hbw : Below w.heap.size w w4 := hbw.trans (hbw4.mono hbw.size); have hz4 := hbw4.size)
  | (go_at_call 24; refine (mL _ _ _ HH.out.1.1 _ HH.out.2 HH.out.1.2 _ (hP0.below hbw) (hI0.below hbw)).mono ?_; rintro e w5 ⟨gO, cap, cs, rfl, hG, hbw5⟩; replace b0 := aq b0 hbw5; replace b1 := aq b1 hbw5; replace b2 := aq b2 hbw5; replace hbw : Below w.heap.size w w5 := hbw.trans (hbw5.mono hbw.size); have hz5 := hbw5.size))
 go_ret
 exact ⟨_,_,_,rfl,hG.mono (by omega) (Nat.le_refl _),hbw⟩
theorem jl (x y : Value) (g : Pa) (σ : List Int) (w : World) (hP : IsP w x g) (hI : IsI w y σ) : Calls Try.prog 8 #[x,y] w (vI w (wsN g σ)):=by
 have hk:=ra g σ
 by_cases h : dt g σ
 · rw [kU h] at hk ⊢
   refine (mU x y g σ h w hP hI).mono ?_
   rintro e w' ⟨gO,cap,cs,rfl,hG,hb⟩
   exact ⟨_,_,_,rfl,⟨hk,.inr ⟨gO,cap,cs,rfl,hG⟩⟩,hb⟩
 · rw [mT h] at hk ⊢
   refine (oV (vs:=[x,y]) (sj g σ h) (.cons (oy hP) (.cons (iu hI) .nil))).mono ?_
   rintro e w' ⟨rfl,hb⟩
   exact ⟨_,_,_,rfl,⟨hk,.inl ⟨rfl,rfl⟩⟩,hb⟩
theorem lX (g : Pa) (σ : List Int) : ba Try.prog 5 [paA g,.c (.I σ)] [.arr 51 .yes (.V 3 (cE (wsN g σ).1 fun v=>wD ((wsN g σ).2 v)))] (fun ns=>.sl (ns.getD 0 0)):=by
 have c1:=mS g σ
 by_cases h : dt g σ
 · rw [aA h] at c1
   rw [kU h]
   have c2:=kS g h.1.1 σ h.2 h.1.2
   (refine bA aF Try.func5 rfl rfl (by kernel_rfl) fun hp0 ν hX hN=>?_;simp only [cg,Nat.reduceAdd])
   (repeat' (first|(with_reducible first|(apply hK;clear hK K)|refine stZ ?_|refine aO rfl ?_|((first|apply ae|apply af);clear ae X af Y))|(with_reducible refine aR ?_;first|refine aP rfl ?_|refine aQ rfl ?_)|((with_reducible first|((first|refine aU ?_|refine aV ?_);intro K hK)|(refine aC ?_;intro X Y ae af)|refine aD ?_);simp (disch:=first|decide|omega|(simp only [List.length_cons,List.length_nil];omega)) only [go_sem,↓aj hN,an hN,reduceIte,reduceCtorEq,Nat.reduceAdd,Nat.reduceLT,Nat.reduceLeDiff,Nat.reduceEqDiff,Nat.reduceSub])|(with_reducible refine And.intro (fun h=>?_) (fun h=>?_) <;> try (exfalso;omega))|(with_reducible refine aT aF hN ?_)|(refine aE (c1) ?_ rfl (fun _=>rfl) ?_;focus ((repeat' (first|(with_reducible first|exact am|refine ah ?_ ?_|exact aZ _|refine ay ?_|exact ax _|exact aI _ _|refine aH ?_|exact au _)|exact az hN rfl rfl|(refine aG hN rfl ?_;first|exact aJ _|exact aK _)|exact aw rfl rfl rfl));done))|(refine rI (c2) ?_ rfl rfl ?_;focus ((repeat' (first|(with_reducible first|exact am|refine ah ?_ ?_|exact aZ _|refine ay ?_|exact ax _|exact aI _ _|refine aH ?_|exact au _)|exact az hN rfl rfl|(refine aG hN rfl ?_;first|exact aJ _|exact aK _)|exact aw rfl rfl rfl));done))|(with_reducible first|exact am|refine ah ?_ ?_|exact aZ _|refine ay ?_|exact ax _|exact aI _ _|refine aH ?_|exact au _)|exact az hN rfl rfl|(refine aG hN rfl ?_;first|exact aJ _|exact aK _)|exact aw rfl rfl rfl|(simp only [aY,List.map_nil])|(with_reducible refine bm ?_)|(with_reducible refine And.intro ?_ ?_)|(refine ak ?_;omega)|(exact aS hN (by decide))))
   (refine fX hN (i:=1) (.inr rfl) (by first|rfl|(simp (disch:=first|decide|omega|(simp only [List.length_cons,List.length_nil];omega)) only [bR,bU,bX,bY,go_sem,beq_self_eq_true,↓aW,↓aj hN,an hN,reduceIte,reduceCtorEq,Nat.reduceAdd,Nat.reduceLT,Nat.reduceLeDiff,Nat.reduceEqDiff,Nat.reduceSub];rfl)) rfl ?_ rfl)
   all_goals rfl
 · rw [ao h] at c1
   rw [mT h]
   (refine bA aF Try.func5 rfl rfl (by kernel_rfl) fun hp0 ν hX hN=>?_;simp only [cg,Nat.reduceAdd])
   (repeat' (first|(with_reducible first|(apply hK;clear hK K)|refine stZ ?_|refine aO rfl ?_|((first|apply ae|apply af);clear ae X af Y))|(with_reducible refine aR ?_;first|refine aP rfl ?_|refine aQ rfl ?_)|((with_reducible first|((first|refine aU ?_|refine aV ?_);intro K hK)|(refine aC ?_;intro X Y ae af)|refine aD ?_);simp (disch:=first|decide|omega|(simp only [List.length_cons,List.length_nil];omega)) only [go_sem,↓aj hN,an hN,reduceIte,reduceCtorEq,Nat.reduceAdd,Nat.reduceLT,Nat.reduceLeDiff,Nat.reduceEqDiff,Nat.reduceSub])|(with_reducible refine And.intro (fun h=>?_) (fun h=>?_) <;> try (exfalso;omega))|(with_reducible refine aT aF hN ?_)|(refine aE (c1) ?_ rfl (fun _=>rfl) ?_;focus ((repeat' (first|(with_reducible first|exact am|refine ah ?_ ?_|exact aZ _|refine ay ?_|exact ax _|exact aI _ _|refine aH ?_|exact au _)|exact az hN rfl rfl|(refine aG hN rfl ?_;first|exact aJ _|exact aK _)|exact aw rfl rfl rfl));done))|(with_reducible first|exact am|refine ah ?_ ?_|exact aZ _|refine ay ?_|exact ax _|exact aI _ _|refine aH ?_|exact au _)|exact az hN rfl rfl|(refine aG hN rfl ?_;first|exact aJ _|exact aK _)|exact aw rfl rfl rfl|(simp only [aY,List.map_nil])|(with_reducible refine bm ?_)|(with_reducible refine And.intro ?_ ?_)|(refine ak ?_;omega)|(exact aS hN (by decide))))
   (refine fX hN (i:=1) (.inr rfl) (by first|rfl|(simp (disch:=first|decide|omega|(simp only [List.length_cons,List.length_nil];omega)) only [bR,bU,bX,bY,go_sem,beq_self_eq_true,↓aW,↓aj hN,an hN,reduceIte,reduceCtorEq,Nat.reduceAdd,Nat.reduceLT,Nat.reduceLeDiff,Nat.reduceEqDiff,Nat.reduceSub];rfl)) rfl ?_ rfl)
   all_goals rfl
theorem mV (x y : Value) (g : Pa) (σ : List Int) (w : World) (hP : IsP w x g) (hI : IsI w y σ) : Calls Try.prog 5 #[x,y] w (qY w (wsN g σ)) :=
 qZ (vs:=[x,y]) (ra g σ) (lX g σ) (.cons (oy hP) (.cons (iu hI) .nil))
end Go.Proofs.Ytlodllmpndflcaa
