/-
  The program's worth of a play, and its play by successors.
-/
import Derived.Test.YtiadchinhofieaaZqI4
import Derived.Test.YtiadchinhofieaaZqT2
import Derived.Test.YtiadchinhofieaaZqV2
import Derived.Test.YtiadchinhofieaaZqShelf2
import Derived.Test.YtiadchinhofieaaZqAt2
import Derived.Test.YtiadchinhofieaaZqR9
namespace Go.Proofs.Ytiadchinhofieaa
set_option linter.unusedVariables false
set_option linter.unusedSimpArgs false
open Go.RowKit
attribute [local irreducible] bt cU Aw Le
noncomputable def d5 (g : Pa) (L : List Int) : Nat → Int
 | 0 => gi L 0
 | k + 1 => if tf (Hv g (gi L k) (d5 g L k)) then gi L k else d5 g L k
section
variable {g : Pa} {L : List Int}
theorem ju {k : Nat} (h : Hv g (gi L k) (d5 g L k)) : d5 g L (k + 1) = gi L k:=by
 show (if tf _ then _ else _) = _;rw [aP h,gH]
theorem kA {k : Nat} (h : ¬ Hv g (gi L k) (d5 g L k)) : d5 g L (k + 1) = d5 g L k:=by
 show (if tf _ then _ else _) = _;rw [aC h,fY]
theorem kB (hL : 0 < L.length) : ∀ k,k ≤ L.length → ∃ j,j < L.length ∧ d5 g L k = gi L j:=by
 intro k
 induction k with
 | zero => exact fun _ => ⟨0, hL, rfl⟩
 | succ k ih =>
   intro hk
   by_cases c : Hv g (gi L k) (d5 g L k)
   · exact ⟨k,by omega,ju c⟩
   · rw [kA c];exact ih (by omega)
theorem tJ : ∀ k j,j < k → ¬ Hv g (gi L j) (d5 g L k):=by
 intro k
 induction k with
 | zero => exact fun j h => absurd h (Nat.not_lt_zero _)
 | succ k ih =>
   intro j hj
   by_cases c : Hv g (gi L k) (d5 g L k)
   · rw [ju c]
     by_cases e : j = k
     · subst e;exact fun h=>eH h h
     · exact fun h=>ih j (by omega) (gl h c)
   · rw [kA c]
     by_cases e : j = k
     · subst e;exact c
     · exact ih j (by omega)
end
theorem tK {g : Pa} {f : Nat → Nat} (hf : ∀ x,x < g.prio.length → f x < g.prio.length) {v : Nat} (hv : v < g.prio.length) :
  0 < (dQ (itF f v) g.prio.length).length ∧ (fm (itF f v) g.prio.length ++ dQ (itF f v) g.prio.length).length ≤ g.prio.length ∧ Bnd (fm (itF f v) g.prio.length ++ dQ (itF f v) g.prio.length) g.prio.length ∧
  d5 g (dQ (itF f v) g.prio.length) (dQ (itF f v) g.prio.length).length = (hdF g f v : Nat) ∧ wyF g f v < (fm (itF f v) g.prio.length ++ dQ (itF f v) g.prio.length).length ∧
  gi (fm (itF f v) g.prio.length ++ dQ (itF f v) g.prio.length) (wyF g f v) = (hdF g f v : Nat) ∧ (∀ j,j < wyF g f v → gi (fm (itF f v) g.prio.length ++ dQ (itF f v) g.prio.length) j ≠ (hdF g f v : Nat)) ∧
  srt (ef (fun x=>Hv g x (hdF g f v : Nat)) (fm (itF f v) g.prio.length ++ dQ (itF f v) g.prio.length) (wyF g f v)) = lst (OvP g f v) g.prio.length:=by
 have hlt:=fun k=>eI hf hv k
 obtain ⟨e1,_,e2,e3⟩:=kw hlt
 obtain ⟨_,_,hdist⟩:=l4 hlt g.prio.length 0 (by omega) fun i j _ h=>absurd h (Nat.not_lt_zero _)
 change ∀ i j,i < j → j < eS (itF f v) g.prio.length → itF f v i ≠ itF f v j at hdist
 have hat:=fun j hj=>tj hlt (j:=j) hj
 have hll:=rD hlt
 have h2 : fm (itF f v) g.prio.length ++ dQ (itF f v) g.prio.length = dJ (itF f v) (eS (itF f v) g.prio.length):=List.take_append_drop _ _
 rw [h2]
 generalize dQ (itF f v) g.prio.length = L at *
 generalize eS (itF f v) g.prio.length = e at *
 generalize atA (itF f v) g.prio.length = a at *
 clear h2
 have hper : itF f (itF f v a) (e - a) = itF f v a:=by rw [← cS,show a + (e - a) = e by omega];exact e3.symm
 have hW : ∀ j,j < e → gi (dJ (itF f v) e) j = (itF f v j : Nat):=fun j hj=>et _ hj
 have hL0 : 0 < L.length:=by omega
 have hhd : d5 g L L.length = (hdF g f v : Nat):=by
  obtain ⟨j,j1,j2⟩:=kB (g:=g) hL0 _ (Nat.le_refl _)
  have jm:=tJ (g:=g) (L:=L) L.length
  rw [hat j (by omega)] at j2
  rw [j2] at jm ⊢
  have hin : ∀ m,∃ r,r < L.length ∧ itF f (itF f v a) m = itF f v (a + r):=fun m=>by
   obtain ⟨r,r1,r2⟩:=jl hper (by omega) m
   exact ⟨r,by omega,by rw [r2,cS]⟩
  have : hdF g f v = itF f v (a + j):=by
   refine lc ⟨⟨_,rfl⟩,⟨e - a,by omega,?_⟩,fun m=>?_⟩
   · rw [← cS,show a + j + (e - a) = a + (e - a + j) by omega,cS f v a,cS f (itF f v a),hper,← cS]
   · rw [← cS,Nat.add_assoc,cS]
     obtain ⟨r,r1,r2⟩:=hin (j + m)
     rw [r2]
     have:=jm r r1
     rw [hat r (by omega)] at this
     exact this
  rw [this]
 obtain ⟨w1,w2⟩:=hJ hf hv
 have hwe : wyF g f v < e:=by
  obtain ⟨j,j1,j2⟩:=kB (g:=g) hL0 _ (Nat.le_refl _)
  rw [hhd,hat j (by omega)] at j2
  rcases Nat.lt_or_ge (wyF g f v) e with h|h
  · exact h
  · exact absurd (show itF f v (a + j) = hdF g f v by omega) (w2 _ (by omega))
 refine ⟨hL0,by rw [d8];exact e1,fun k hk=>?_,hhd,by rw [d8];exact hwe,by rw [hW _ hwe,w1],fun j hj=>?_,?_⟩
 · rw [d8] at hk
   rw [hW k hk]
   have:=hlt k
   omega
 · rw [hW j (by omega)]
   have:=w2 j hj
   omega
 · have hm : ∀ x,x ∈ ef (fun x=>Hv g x (hdF g f v : Nat)) (dJ (itF f v) e) (wyF g f v) ↔ ∃ j,j < wyF g f v ∧ (itF f v j : Int) = x ∧ Hv g x (hdF g f v : Nat):=fun x=>by
    rw [fw _ (by rw [d8];omega)]
    constructor
    · rintro ⟨j,q1,q2,q3⟩;exact ⟨j,q1,by rw [← hW j (by omega)];exact q2,q3⟩
    · rintro ⟨j,q1,q2,q3⟩;exact ⟨j,q1,by rw [hW j (by omega)];exact q2,q3⟩
   have nd : ∀ k,k ≤ wyF g f v → (ef (fun x=>Hv g x (hdF g f v : Nat)) (dJ (itF f v) e) k).Nodup:=by
    intro k
    induction k with
    | zero => exact fun _ => List.nodup_nil
    | succ k ih =>
      intro hk
      by_cases c : Hv g (gi (dJ (itF f v) e) k) (hdF g f v : Nat)
      · rw [eZ c,List.nodup_append]
        refine ⟨ih (by omega),by simp,fun x hx y hy e=>?_⟩
        rw [List.mem_singleton] at hy
        subst e;subst hy
        obtain ⟨j,q1,q2,_⟩:=(fw _ (by rw [d8];omega)).1 hx
        rw [hW j (by omega),hW k (by omega)] at q2
        exact hdist j k q1 (by omega) (by omega)
      · rw [fQ c];exact ih (by omega)
   have h3 : (srt (ef (fun x=>Hv g x (hdF g f v : Nat)) (dJ (itF f v) e) (wyF g f v))).Nodup:=(List.mergeSort_perm _ _).nodup_iff.2 (nd _ (Nat.le_refl _))
   refine mQ _ _ (((w6 _).and h3).imp fun h=>by omega) (jQ (fJ _ _)) fun x=>?_
   rw [qE,hm,fP]
   constructor
   · rintro ⟨j,q1,q2,q3⟩
     exact ⟨itF f v j,hlt j,⟨by rw [q2];exact q3,j,q1,rfl⟩,q2.symm⟩
   · rintro ⟨y,_,⟨q3,j,q1,q2⟩,q4⟩
     exact ⟨j,q1,by rw [q2,q4],by rw [q4];exact q3⟩
set_option maxHeartbeats 1000000 in
theorem pL (g : Pa) (hg : PaOk g) (S L : List Int) (hL : 0 < L.length) (hlen : (S ++ L).length ≤ 256) (hB : Bnd (S ++ L) g.prio.length) (d : Nat) (hd : d < (S ++ L).length) (hdh : gi (S ++ L) d = d5 g L L.length) (hdn : ∀ j,j < d → gi (S ++ L) j ≠ d5 g L L.length) :
  bt Try.prog 86 [paA g,.agg [.c (.I S),.c (.I L)]] [.arr 2 .may (.I (srt (ef (fun x=>Hv g x (d5 g L L.length)) (S ++ L) d)))] (fun ns=>.agg [.c (.int .i64 (d5 g L L.length)),.sl (ns.getD 0 0),.c (.int .i64 d)]):=by
 have hl:=hg.len
 have hle:=hg.ar.le
 have hsl : (S ++ L).length = S.length + L.length:=List.length_append
 have hBL : ∀ k,k < L.length → ff g.prio.length (gi L k):=fun k hk=>by
  have:=hB (S.length + k) (by omega)
  have e : gi (S ++ L) (S.length + k) = gi L k:=by simp only [gi,List.getD_eq_getElem?_getD,List.getElem?_append_right (Nat.le_add_right _ _),Nat.add_sub_cancel_left]
  rw [e] at this
  exact this
 have hVh : ∀ k,k ≤ L.length → ff g.prio.length (d5 g L k):=fun k hk=>by
  obtain ⟨j,j1,j2⟩:=kB (g:=g) hL k hk
  rw [j2];exact hBL j j1
 have hfl:=kN (fun x=>Hv g x (d5 g L L.length)) (S ++ L)
 have hso:=u4 (ef (fun x=>Hv g x (d5 g L L.length)) (S ++ L) d) (by have:=hfl d;omega) .may rfl
 (refine bR aG Try.func86 rfl rfl (by kernel_rfl) fun hp0 ν hX hN=>?_;simp only [cI,Nat.reduceAdd])
 (repeat' (first|(with_reducible first|(refine hK _ _ ?_;clear hK K)|(refine aa _ ?_;clear aa K)|(refine ab _ _ _ ?_;clear ab K)|(refine ac _ _ ?_;clear ac K)|refine bd ?_|refine bG ?_|refine aV ?_|refine az ?_|refine ay ?_|refine bH ?_|refine aI ?_|refine aW ?_|refine bI ?_|refine aX ?_|refine aY rfl ?_|refine be ?_|refine aZ ?_|refine bJ ?_|refine ba ?_|refine aH ?_|refine n_k ?_|refine bc ?_|(refine ae ?_;clear ae X af Y)|(refine af ?_;clear ae X af Y))|(with_reducible refine bi ?_;first|refine bg rfl ?_|refine bh rfl ?_)|(with_reducible refine aQ ?_;first|refine aA rfl rfl rfl rfl ?_|refine aK rfl rfl rfl ?_|refine bn rfl rfl rfl rfl ?_)|(with_reducible refine bF ?_;first|refine aS rfl rfl rfl rfl ?_|refine bC rfl rfl rfl ?_|refine bV rfl rfl rfl rfl ?_|refine bW hN (by apply Exists.intro;apply And.intro;(repeat' (first|apply FtI.nil|apply FI.nil|apply FI.cons|apply FtI.cons));kernel_rfl) ?_)|((first|(with_reducible first|refine bj rfl rfl fun K hK=>?_|refine bT rfl rfl fun K ab=>?_|refine bm rfl rfl fun K aa=>?_|refine bU rfl rfl fun K ac=>?_|refine aJ fun X Y ae af=>?_|refine aL ?_));simp (disch:=first|decide|omega|(simp only [List.length_cons,List.length_nil];omega)) only [go_sem,beq_self_eq_true,↓ag,↓ak hN,ao hN,reduceIte,reduceCtorEq,Nat.reduceAdd,Nat.reduceLT,Nat.reduceLeDiff,Nat.reduceEqDiff,Nat.reduceSub])|(with_reducible refine And.intro (fun h=>?_) (fun h=>?_) <;> try (exfalso;omega))|(with_reducible refine bf aG hN rfl ?_ ?_;kernel_rfl)|(with_reducible refine aU aG hN rfl ?_ ?_ ?_ ?_;(kernel_rfl);(kernel_rfl);(kernel_rfl))|(with_reducible refine And.intro ?_ ?_)|(refine aj ?_;omega)|(exact bo hN (by decide))))
 (refine cR (fun (k : Nat)=>(tmL [(18,.c (.int .i64 k)),(17,.c (.int .i64 L.length)),(16,.c (.I L)),(5,.ad (ν 3) 0),(4,.ad (ν 2) 0),(2,.ad (ν 0) 0),(3,.ad (ν 1) 0)],hpL hp0 ν [.box [.c (.I g.ar.own),.c (.R g.ar.nxt),.c (.I g.prio)],.box [.c (.I S),.c (.I L)],.box [.c (.int .i64 0),.c .nul,.c (.int .i64 0)],.box [.c (.int .i64 (d5 g L k)),.c .nul,.c (.int .i64 0)]])) (fun (k : Nat)=>k ≤ L.length) (fun (k : Nat)=>L.length - k) ⟨0,?_,co hX hN [] ?_ ?_⟩ ?_;(repeat' (first|(with_reducible first|exact cf _|exact cg|exact ci|refine cj ?_ ?_|refine ck ?_ ?_|exact bv _|exact cc _|exact aR _|rfl|exact bM _ _|refine bx ?_|exact ce _|refine bQ ?_)|refine cm rfl ?_ ?_|exact bN hN _ rfl rfl rfl|exact bO hN _ rfl rfl rfl|exact bz hN _ rfl rfl rfl (Or.inr rfl)|(refine bP hN _ rfl rfl (by first|exact Or.inr rfl|exact Or.inl rfl) ?_;first|exact aE _|exact aF _)|refine bA hN rfl ?_|refine bB hN rfl rfl ?_|exact bw hN _ rfl rfl|exact bu hN rfl rfl rfl rfl|(with_reducible first|refine bL ?_|refine bZ ?_|refine b7 ?_|refine b8 ?_|refine b9 ?_|refine bY ?_)));(try (any_goals (first|(with_reducible rfl)|(refine aj ?_;omega)))))
 · rfl
 intro k hk
 by_cases hkl : k < L.length
 · have c1:=dB g (gi L k) (d5 g L k) (hBL k hkl) (hVh k hk)
   by_cases hh : Hv g (gi L k) (d5 g L k)
   · rw [aP hh] at c1
     (repeat' (first|(with_reducible first|(refine hK _ _ ?_;clear hK K)|(refine aa _ ?_;clear aa K)|(refine ab _ _ _ ?_;clear ab K)|(refine ac _ _ ?_;clear ac K)|refine bd ?_|refine bG ?_|refine aV ?_|refine az ?_|refine ay ?_|refine bH ?_|refine aI ?_|refine aW ?_|refine bI ?_|refine aX ?_|refine aY rfl ?_|refine be ?_|refine aZ ?_|refine bJ ?_|refine ba ?_|refine aH ?_|refine n_k ?_|refine bc ?_|(refine ae ?_;clear ae X af Y)|(refine af ?_;clear ae X af Y))|(with_reducible refine bi ?_;first|refine bg rfl ?_|refine bh rfl ?_)|(with_reducible refine aQ ?_;first|refine aA rfl rfl rfl rfl ?_|refine aK rfl rfl rfl ?_|refine bn rfl rfl rfl rfl ?_)|(with_reducible refine bF ?_;first|refine aS rfl rfl rfl rfl ?_|refine bC rfl rfl rfl ?_|refine bV rfl rfl rfl rfl ?_|refine bW hN (by apply Exists.intro;apply And.intro;(repeat' (first|apply FtI.nil|apply FI.nil|apply FI.cons|apply FtI.cons));kernel_rfl) ?_)|((first|(with_reducible first|refine bj rfl rfl fun K hK=>?_|refine bT rfl rfl fun K ab=>?_|refine bm rfl rfl fun K aa=>?_|refine bU rfl rfl fun K ac=>?_|refine aJ fun X Y ae af=>?_|refine aL ?_));simp (disch:=first|decide|omega|(simp only [List.length_cons,List.length_nil];omega)) only [go_sem,beq_self_eq_true,↓ag,↓ak hN,ao hN,reduceIte,reduceCtorEq,Nat.reduceAdd,Nat.reduceLT,Nat.reduceLeDiff,Nat.reduceEqDiff,Nat.reduceSub])|(with_reducible refine And.intro (fun h=>?_) (fun h=>?_) <;> try (exfalso;omega))|(with_reducible refine bf aG hN rfl ?_ ?_;kernel_rfl)|(with_reducible refine aU aG hN rfl ?_ ?_ ?_ ?_;(kernel_rfl);(kernel_rfl);(kernel_rfl))|(refine aD (c1) ?_ rfl (fun _=>rfl) ?_;focus ((repeat' (first|(with_reducible first|exact am|refine ah ?_ ?_|exact br _|refine aw ?_|exact au _|exact aO _ _|refine aN ?_|exact ap _)|exact ax hN rfl rfl|(refine aM hN rfl ?_;first|exact aE _|exact aF _)|exact aq rfl rfl rfl));done))|(with_reducible first|exact am|refine ah ?_ ?_|exact br _|refine aw ?_|exact au _|exact aO _ _|refine aN ?_|exact ap _)|exact ax hN rfl rfl|(refine aM hN rfl ?_;first|exact aE _|exact aF _)|exact aq rfl rfl rfl|(simp only [bE,List.map_nil])|(with_reducible refine bD ?_)|(with_reducible refine And.intro ?_ ?_)|(refine aj ?_;omega)|(exact bo hN (by decide))))
     (refine ⟨k + 1,⟨?_,?_⟩,co hX hN [] ?_ ?_⟩;(try any_goals dsimp only);(repeat' (first|(with_reducible first|exact cf _|exact cg|exact ci|refine cj ?_ ?_|refine ck ?_ ?_|exact bv _|exact cc _|exact aR _|rfl|exact bM _ _|refine bx ?_|exact ce _|refine bQ ?_)|refine cm rfl ?_ ?_|exact bN hN _ rfl rfl rfl|exact bO hN _ rfl rfl rfl|exact bz hN _ rfl rfl rfl (Or.inr rfl)|(refine bP hN _ rfl rfl (by first|exact Or.inr rfl|exact Or.inl rfl) ?_;first|exact aE _|exact aF _)|refine bA hN rfl ?_|refine bB hN rfl rfl ?_|exact bw hN _ rfl rfl|exact bu hN rfl rfl rfl rfl|(with_reducible first|refine bL ?_|refine bZ ?_|refine b7 ?_|refine b8 ?_|refine b9 ?_|refine bY ?_)));(try (any_goals (first|(with_reducible rfl)|(refine aj ?_;omega)))))
     exact (ju hh).symm
   · rw [aC hh] at c1
     (repeat' (first|(with_reducible first|(refine hK _ _ ?_;clear hK K)|(refine aa _ ?_;clear aa K)|(refine ab _ _ _ ?_;clear ab K)|(refine ac _ _ ?_;clear ac K)|refine bd ?_|refine bG ?_|refine aV ?_|refine az ?_|refine ay ?_|refine bH ?_|refine aI ?_|refine aW ?_|refine bI ?_|refine aX ?_|refine aY rfl ?_|refine be ?_|refine aZ ?_|refine bJ ?_|refine ba ?_|refine aH ?_|refine n_k ?_|refine bc ?_|(refine ae ?_;clear ae X af Y)|(refine af ?_;clear ae X af Y))|(with_reducible refine bi ?_;first|refine bg rfl ?_|refine bh rfl ?_)|(with_reducible refine aQ ?_;first|refine aA rfl rfl rfl rfl ?_|refine aK rfl rfl rfl ?_|refine bn rfl rfl rfl rfl ?_)|(with_reducible refine bF ?_;first|refine aS rfl rfl rfl rfl ?_|refine bC rfl rfl rfl ?_|refine bV rfl rfl rfl rfl ?_|refine bW hN (by apply Exists.intro;apply And.intro;(repeat' (first|apply FtI.nil|apply FI.nil|apply FI.cons|apply FtI.cons));kernel_rfl) ?_)|((first|(with_reducible first|refine bj rfl rfl fun K hK=>?_|refine bT rfl rfl fun K ab=>?_|refine bm rfl rfl fun K aa=>?_|refine bU rfl rfl fun K ac=>?_|refine aJ fun X Y ae af=>?_|refine aL ?_));simp (disch:=first|decide|omega|(simp only [List.length_cons,List.length_nil];omega)) only [go_sem,beq_self_eq_true,↓ag,↓ak hN,ao hN,reduceIte,reduceCtorEq,Nat.reduceAdd,Nat.reduceLT,Nat.reduceLeDiff,Nat.reduceEqDiff,Nat.reduceSub])|(with_reducible refine And.intro (fun h=>?_) (fun h=>?_) <;> try (exfalso;omega))|(with_reducible refine bf aG hN rfl ?_ ?_;kernel_rfl)|(with_reducible refine aU aG hN rfl ?_ ?_ ?_ ?_;(kernel_rfl);(kernel_rfl);(kernel_rfl))|(refine aD (c1) ?_ rfl (fun _=>rfl) ?_;focus ((repeat' (first|(with_reducible first|exact am|refine ah ?_ ?_|exact br _|refine aw ?_|exact au _|exact aO _ _|refine aN ?_|exact ap _)|exact ax hN rfl rfl|(refine aM hN rfl ?_;first|exact aE _|exact aF _)|exact aq rfl rfl rfl));done))|(with_reducible first|exact am|refine ah ?_ ?_|exact br _|refine aw ?_|exact au _|exact aO _ _|refine aN ?_|exact ap _)|exact ax hN rfl rfl|(refine aM hN rfl ?_;first|exact aE _|exact aF _)|exact aq rfl rfl rfl|(simp only [bE,List.map_nil])|(with_reducible refine bD ?_)|(with_reducible refine And.intro ?_ ?_)|(refine aj ?_;omega)|(exact bo hN (by decide))))
     (refine ⟨k + 1,⟨?_,?_⟩,co hX hN [] ?_ ?_⟩;(try any_goals dsimp only);(repeat' (first|(with_reducible first|exact cf _|exact cg|exact ci|refine cj ?_ ?_|refine ck ?_ ?_|exact bv _|exact cc _|exact aR _|rfl|exact bM _ _|refine bx ?_|exact ce _|refine bQ ?_)|refine cm rfl ?_ ?_|exact bN hN _ rfl rfl rfl|exact bO hN _ rfl rfl rfl|exact bz hN _ rfl rfl rfl (Or.inr rfl)|(refine bP hN _ rfl rfl (by first|exact Or.inr rfl|exact Or.inl rfl) ?_;first|exact aE _|exact aF _)|refine bA hN rfl ?_|refine bB hN rfl rfl ?_|exact bw hN _ rfl rfl|exact bu hN rfl rfl rfl rfl|(with_reducible first|refine bL ?_|refine bZ ?_|refine b7 ?_|refine b8 ?_|refine b9 ?_|refine bY ?_)));(try (any_goals (first|(with_reducible rfl)|(refine aj ?_;omega)))))
     exact (kA hh).symm
 · obtain rfl : k = L.length:=by omega
   have hVl:=hVh L.length hk
   generalize d5 g L L.length = hw at *
   (repeat' (first|(with_reducible first|(refine hK _ _ ?_;clear hK K)|(refine aa _ ?_;clear aa K)|(refine ab _ _ _ ?_;clear ab K)|(refine ac _ _ ?_;clear ac K)|refine bd ?_|refine bG ?_|refine aV ?_|refine az ?_|refine ay ?_|refine bH ?_|refine aI ?_|refine aW ?_|refine bI ?_|refine aX ?_|refine aY rfl ?_|refine be ?_|refine aZ ?_|refine bJ ?_|refine ba ?_|refine aH ?_|refine n_k ?_|refine bc ?_|(refine ae ?_;clear ae X af Y)|(refine af ?_;clear ae X af Y))|(with_reducible refine bi ?_;first|refine bg rfl ?_|refine bh rfl ?_)|(with_reducible refine aQ ?_;first|refine aA rfl rfl rfl rfl ?_|refine aK rfl rfl rfl ?_|refine bn rfl rfl rfl rfl ?_)|(with_reducible refine bF ?_;first|refine aS rfl rfl rfl rfl ?_|refine bC rfl rfl rfl ?_|refine bV rfl rfl rfl rfl ?_|refine bW hN (by apply Exists.intro;apply And.intro;(repeat' (first|apply FtI.nil|apply FI.nil|apply FI.cons|apply FtI.cons));kernel_rfl) ?_)|((first|(with_reducible first|refine bj rfl rfl fun K hK=>?_|refine bT rfl rfl fun K ab=>?_|refine bm rfl rfl fun K aa=>?_|refine bU rfl rfl fun K ac=>?_|refine aJ fun X Y ae af=>?_|refine aL ?_));simp (disch:=first|decide|omega|(simp only [List.length_cons,List.length_nil];omega)) only [go_sem,beq_self_eq_true,↓ag,↓ak hN,ao hN,reduceIte,reduceCtorEq,Nat.reduceAdd,Nat.reduceLT,Nat.reduceLeDiff,Nat.reduceEqDiff,Nat.reduceSub])|(with_reducible refine And.intro (fun h=>?_) (fun h=>?_) <;> try (exfalso;omega))|(with_reducible refine bf aG hN rfl ?_ ?_;kernel_rfl)|(with_reducible refine aU aG hN rfl ?_ ?_ ?_ ?_;(kernel_rfl);(kernel_rfl);(kernel_rfl))|(with_reducible refine And.intro ?_ ?_)|(refine aj ?_;omega)|(exact bo hN (by decide))))
   (refine cR (fun (i : Nat)=>(tmL [(38,.c (.int .i64 i)),(37,.c (.int .i64 (S ++ L).length)),(36,.sl (ν 6)),(5,.ad (ν 3) 0),(4,.ad (ν 2) 0),(2,.ad (ν 0) 0)],hpL hp0 ν [.box [.c (.I g.ar.own),.c (.R g.ar.nxt),.c (.I g.prio)],.box [.c (.I S),.c (.I L)],.box [.c (.int .i64 0),.c .nul,.c (.int .i64 0)],.box [.c (.int .i64 hw),.sl (ν 7),.c (.int .i64 i)],.dead,.dead,.arr 2 .yes (.I (S ++ L)),.arr 2 .may (.I (ef (fun x=>Hv g x hw) (S ++ L) i))])) (fun (i : Nat)=>i ≤ d) (fun (i : Nat)=>d - i) ⟨0,?_,co hX hN [] ?_ ?_⟩ ?_;(repeat' (first|(with_reducible first|exact cf _|exact cg|exact ci|refine cj ?_ ?_|refine ck ?_ ?_|exact bv _|exact cc _|exact aR _|rfl|exact bM _ _|refine bx ?_|exact ce _|refine bQ ?_)|refine cm rfl ?_ ?_|exact bN hN _ rfl rfl rfl|exact bO hN _ rfl rfl rfl|exact bz hN _ rfl rfl rfl (Or.inr rfl)|(refine bP hN _ rfl rfl (by first|exact Or.inr rfl|exact Or.inl rfl) ?_;first|exact aE _|exact aF _)|refine bA hN rfl ?_|refine bB hN rfl rfl ?_|exact bw hN _ rfl rfl|exact bu hN rfl rfl rfl rfl|(with_reducible first|refine bL ?_|refine bZ ?_|refine b7 ?_|refine b8 ?_|refine b9 ?_|refine bY ?_)));(try (any_goals (first|(with_reducible rfl)|(refine aj ?_;omega)))))
   intro i hi
   have hfi:=hfl i
   by_cases hid : i < d
   · have c1:=dB g (gi (S ++ L) i) hw (hB i (by omega)) hVl
     have hne:=hdn i hid
     by_cases hh : Hv g (gi (S ++ L) i) hw
     · rw [aP hh] at c1
       (repeat' (first|(with_reducible first|(refine hK _ _ ?_;clear hK K)|(refine aa _ ?_;clear aa K)|(refine ab _ _ _ ?_;clear ab K)|(refine ac _ _ ?_;clear ac K)|refine bd ?_|refine bG ?_|refine aV ?_|refine az ?_|refine ay ?_|refine bH ?_|refine aI ?_|refine aW ?_|refine bI ?_|refine aX ?_|refine aY rfl ?_|refine be ?_|refine aZ ?_|refine bJ ?_|refine ba ?_|refine aH ?_|refine n_k ?_|refine bc ?_|(refine ae ?_;clear ae X af Y)|(refine af ?_;clear ae X af Y))|(with_reducible refine bi ?_;first|refine bg rfl ?_|refine bh rfl ?_)|(with_reducible refine aQ ?_;first|refine aA rfl rfl rfl rfl ?_|refine aK rfl rfl rfl ?_|refine bn rfl rfl rfl rfl ?_)|(with_reducible refine bF ?_;first|refine aS rfl rfl rfl rfl ?_|refine bC rfl rfl rfl ?_|refine bV rfl rfl rfl rfl ?_|refine bW hN (by apply Exists.intro;apply And.intro;(repeat' (first|apply FtI.nil|apply FI.nil|apply FI.cons|apply FtI.cons));kernel_rfl) ?_)|((first|(with_reducible first|refine bj rfl rfl fun K hK=>?_|refine bT rfl rfl fun K ab=>?_|refine bm rfl rfl fun K aa=>?_|refine bU rfl rfl fun K ac=>?_|refine aJ fun X Y ae af=>?_|refine aL ?_));simp (disch:=first|decide|omega|(simp only [List.length_cons,List.length_nil];omega)) only [go_sem,beq_self_eq_true,↓ag,↓ak hN,ao hN,reduceIte,reduceCtorEq,Nat.reduceAdd,Nat.reduceLT,Nat.reduceLeDiff,Nat.reduceEqDiff,Nat.reduceSub])|(with_reducible refine And.intro (fun h=>?_) (fun h=>?_) <;> try (exfalso;omega))|(with_reducible refine bf aG hN rfl ?_ ?_;kernel_rfl)|(with_reducible refine aU aG hN rfl ?_ ?_ ?_ ?_;(kernel_rfl);(kernel_rfl);(kernel_rfl))|(refine aD (c1) ?_ rfl (fun _=>rfl) ?_;focus ((repeat' (first|(with_reducible first|exact am|refine ah ?_ ?_|exact br _|refine aw ?_|exact au _|exact aO _ _|refine aN ?_|exact ap _)|exact ax hN rfl rfl|(refine aM hN rfl ?_;first|exact aE _|exact aF _)|exact aq rfl rfl rfl));done))|(with_reducible first|exact am|refine ah ?_ ?_|exact br _|refine aw ?_|exact au _|exact aO _ _|refine aN ?_|exact ap _)|exact ax hN rfl rfl|(refine aM hN rfl ?_;first|exact aE _|exact aF _)|exact aq rfl rfl rfl|(simp only [bE,List.map_nil])|(with_reducible refine bD ?_)|(with_reducible refine And.intro ?_ ?_)|(refine aj ?_;omega)|(exact bo hN (by decide))))
       (refine ⟨i + 1,⟨?_,?_⟩,co hX hN [(7,9)] ?_ ?_⟩;(try any_goals dsimp only);(repeat' (first|(with_reducible first|exact cf _|exact cg|exact ci|refine cj ?_ ?_|refine ck ?_ ?_|exact bv _|exact cc _|exact aR _|rfl|exact bM _ _|refine bx ?_|exact ce _|refine bQ ?_)|refine cm rfl ?_ ?_|exact bN hN _ rfl rfl rfl|exact bO hN _ rfl rfl rfl|exact bz hN _ rfl rfl rfl (Or.inr rfl)|(refine bP hN _ rfl rfl (by first|exact Or.inr rfl|exact Or.inl rfl) ?_;first|exact aE _|exact aF _)|refine bA hN rfl ?_|refine bB hN rfl rfl ?_|exact bw hN _ rfl rfl|exact bu hN rfl rfl rfl rfl|(with_reducible first|refine bL ?_|refine bZ ?_|refine b7 ?_|refine b8 ?_|refine b9 ?_|refine bY ?_)));(try (any_goals (first|(with_reducible rfl)|(refine aj ?_;omega)))))
       first|exact eZ hh|exact (eZ hh).symm
     · rw [aC hh] at c1
       (repeat' (first|(with_reducible first|(refine hK _ _ ?_;clear hK K)|(refine aa _ ?_;clear aa K)|(refine ab _ _ _ ?_;clear ab K)|(refine ac _ _ ?_;clear ac K)|refine bd ?_|refine bG ?_|refine aV ?_|refine az ?_|refine ay ?_|refine bH ?_|refine aI ?_|refine aW ?_|refine bI ?_|refine aX ?_|refine aY rfl ?_|refine be ?_|refine aZ ?_|refine bJ ?_|refine ba ?_|refine aH ?_|refine n_k ?_|refine bc ?_|(refine ae ?_;clear ae X af Y)|(refine af ?_;clear ae X af Y))|(with_reducible refine bi ?_;first|refine bg rfl ?_|refine bh rfl ?_)|(with_reducible refine aQ ?_;first|refine aA rfl rfl rfl rfl ?_|refine aK rfl rfl rfl ?_|refine bn rfl rfl rfl rfl ?_)|(with_reducible refine bF ?_;first|refine aS rfl rfl rfl rfl ?_|refine bC rfl rfl rfl ?_|refine bV rfl rfl rfl rfl ?_|refine bW hN (by apply Exists.intro;apply And.intro;(repeat' (first|apply FtI.nil|apply FI.nil|apply FI.cons|apply FtI.cons));kernel_rfl) ?_)|((first|(with_reducible first|refine bj rfl rfl fun K hK=>?_|refine bT rfl rfl fun K ab=>?_|refine bm rfl rfl fun K aa=>?_|refine bU rfl rfl fun K ac=>?_|refine aJ fun X Y ae af=>?_|refine aL ?_));simp (disch:=first|decide|omega|(simp only [List.length_cons,List.length_nil];omega)) only [go_sem,beq_self_eq_true,↓ag,↓ak hN,ao hN,reduceIte,reduceCtorEq,Nat.reduceAdd,Nat.reduceLT,Nat.reduceLeDiff,Nat.reduceEqDiff,Nat.reduceSub])|(with_reducible refine And.intro (fun h=>?_) (fun h=>?_) <;> try (exfalso;omega))|(with_reducible refine bf aG hN rfl ?_ ?_;kernel_rfl)|(with_reducible refine aU aG hN rfl ?_ ?_ ?_ ?_;(kernel_rfl);(kernel_rfl);(kernel_rfl))|(refine aD (c1) ?_ rfl (fun _=>rfl) ?_;focus ((repeat' (first|(with_reducible first|exact am|refine ah ?_ ?_|exact br _|refine aw ?_|exact au _|exact aO _ _|refine aN ?_|exact ap _)|exact ax hN rfl rfl|(refine aM hN rfl ?_;first|exact aE _|exact aF _)|exact aq rfl rfl rfl));done))|(with_reducible first|exact am|refine ah ?_ ?_|exact br _|refine aw ?_|exact au _|exact aO _ _|refine aN ?_|exact ap _)|exact ax hN rfl rfl|(refine aM hN rfl ?_;first|exact aE _|exact aF _)|exact aq rfl rfl rfl|(simp only [bE,List.map_nil])|(with_reducible refine bD ?_)|(with_reducible refine And.intro ?_ ?_)|(refine aj ?_;omega)|(exact bo hN (by decide))))
       (refine ⟨i + 1,⟨?_,?_⟩,co hX hN [] ?_ ?_⟩;(try any_goals dsimp only);(repeat' (first|(with_reducible first|exact cf _|exact cg|exact ci|refine cj ?_ ?_|refine ck ?_ ?_|exact bv _|exact cc _|exact aR _|rfl|exact bM _ _|refine bx ?_|exact ce _|refine bQ ?_)|refine cm rfl ?_ ?_|exact bN hN _ rfl rfl rfl|exact bO hN _ rfl rfl rfl|exact bz hN _ rfl rfl rfl (Or.inr rfl)|(refine bP hN _ rfl rfl (by first|exact Or.inr rfl|exact Or.inl rfl) ?_;first|exact aE _|exact aF _)|refine bA hN rfl ?_|refine bB hN rfl rfl ?_|exact bw hN _ rfl rfl|exact bu hN rfl rfl rfl rfl|(with_reducible first|refine bL ?_|refine bZ ?_|refine b7 ?_|refine b8 ?_|refine b9 ?_|refine bY ?_)));(try (any_goals (first|(with_reducible rfl)|(refine aj ?_;omega)))))
       first|exact fQ hh|exact (fQ hh).symm
   · obtain rfl : i = d:=by omega
     (repeat' (first|(with_reducible first|(refine hK _ _ ?_;clear hK K)|(refine aa _ ?_;clear aa K)|(refine ab _ _ _ ?_;clear ab K)|(refine ac _ _ ?_;clear ac K)|refine bd ?_|refine bG ?_|refine aV ?_|refine az ?_|refine ay ?_|refine bH ?_|refine aI ?_|refine aW ?_|refine bI ?_|refine aX ?_|refine aY rfl ?_|refine be ?_|refine aZ ?_|refine bJ ?_|refine ba ?_|refine aH ?_|refine n_k ?_|refine bc ?_|(refine ae ?_;clear ae X af Y)|(refine af ?_;clear ae X af Y))|(with_reducible refine bi ?_;first|refine bg rfl ?_|refine bh rfl ?_)|(with_reducible refine aQ ?_;first|refine aA rfl rfl rfl rfl ?_|refine aK rfl rfl rfl ?_|refine bn rfl rfl rfl rfl ?_)|(with_reducible refine bF ?_;first|refine aS rfl rfl rfl rfl ?_|refine bC rfl rfl rfl ?_|refine bV rfl rfl rfl rfl ?_|refine bW hN (by apply Exists.intro;apply And.intro;(repeat' (first|apply FtI.nil|apply FI.nil|apply FI.cons|apply FtI.cons));kernel_rfl) ?_)|((first|(with_reducible first|refine bj rfl rfl fun K hK=>?_|refine bT rfl rfl fun K ab=>?_|refine bm rfl rfl fun K aa=>?_|refine bU rfl rfl fun K ac=>?_|refine aJ fun X Y ae af=>?_|refine aL ?_));simp (disch:=first|decide|omega|(simp only [List.length_cons,List.length_nil];omega)) only [go_sem,beq_self_eq_true,↓ag,↓ak hN,ao hN,reduceIte,reduceCtorEq,Nat.reduceAdd,Nat.reduceLT,Nat.reduceLeDiff,Nat.reduceEqDiff,Nat.reduceSub])|(with_reducible refine And.intro (fun h=>?_) (fun h=>?_) <;> try (exfalso;omega))|(with_reducible refine bf aG hN rfl ?_ ?_;kernel_rfl)|(with_reducible refine aU aG hN rfl ?_ ?_ ?_ ?_;(kernel_rfl);(kernel_rfl);(kernel_rfl))|(refine dm (hso) hN 7 rfl rfl rfl rfl rfl ?_ ?_ ?_ ?_;(focus (simp [bX,AV.names];done));(focus (intro ν' hν;(repeat' (first|exact ArgMs.nil|refine ArgMs.cons ?_ ?_|exact fb hν|exact fc hν|exact fZ _|exact fN (by first|exact au _|exact ap _|exact aq rfl rfl rfl) rfl|(refine fe hN rfl ?_ (by decide);first|exact aE _|exact aF _)|refine dz ?_));done));(focus (first|exact Or.inr ⟨rfl,rfl,fun _=>rfl⟩|exact Or.inl (by simp [bX,AV.names]))))|(with_reducible first|exact am|refine ah ?_ ?_|exact br _|refine aw ?_|exact au _|exact aO _ _|refine aN ?_|exact ap _)|exact ax hN rfl rfl|(refine aM hN rfl ?_;first|exact aE _|exact aF _)|exact aq rfl rfl rfl|(simp only [bE,List.map_nil])|(with_reducible refine bD ?_)|(simp (disch:=first|decide|omega|(simp only [List.length_cons,List.length_nil];omega)) only [bE,List.map_cons,List.map_nil,ao hN,List.set_cons_zero,List.set_cons_succ])|(with_reducible refine And.intro ?_ ?_)|(refine aj ?_;omega)|(exact bo hN (by decide))))
     all_goals first|(exact absurd hdh (dp (by assumption)))|((refine dF hN [7] (by decide) (.inr rfl) (by first|exact cL rfl rfl|exact cF hN rfl rfl rfl rfl|exact cz hN rfl rfl rfl rfl rfl|(simp (disch:=first|decide|omega|(simp only [List.length_cons,List.length_nil];omega)) only [cB,cC,cD,cE,go_sem,beq_self_eq_true,↓ag,↓ak hN,ao hN,reduceIte,reduceCtorEq,Nat.reduceAdd,Nat.reduceLT,Nat.reduceLeDiff,Nat.reduceEqDiff,Nat.reduceSub];rfl)|rfl) ?_ fun νs hνs=>?_;(repeat' (first|exact Gone.nil|(refine Gone.cons rfl rfl ?_ ?_)|(with_reducible refine dh ?_)|(with_reducible refine dg ?_)|(with_reducible refine SVs.cons ?_ ?_)|(with_reducible exact SVs.nil)|(simp only [List.drop,List.take])|(simp (disch:=first|decide|omega) only [↓ag,reduceIte,reduceCtorEq,Nat.reduceEqDiff])|(with_reducible exact eP _)|(with_reducible exact dc _)|(exact df rfl rfl rfl)|(exact dC 0 (by simp) rfl rfl)|(refine dE hN rfl (di hN (by decide)) ?_)|(with_reducible refine dD ?_)|(with_reducible rfl)|(with_reducible refine bZ ?_)|(with_reducible refine b7 ?_)|(with_reducible refine b8 ?_)|(with_reducible refine b9 ?_)|(with_reducible refine bY ?_)|(refine aj ?_;omega))));done)
set_option maxHeartbeats 1000000 in
theorem rI (n : Nat) (hn : n ≤ 256) (wl : List Int) (hl : wl.length = n) (f : Nat → Nat) (hf : ∀ x,x < n → gi wl x = (f x : Nat) ∧ f x < n) (v : Nat) (hv : v < n) : bt Try.prog 129 [.c (.I wl),.c (.int .i64 v)] [] (fun _=>.agg [.c (.I (fm (itF f v) n)),.c (.I (dQ (itF f v) n))]):=by
 have hlt:=fun k=>eI (fun x hx=>(hf x hx).2) hv k
 have hend:=kw hlt
 have hfx : ∀ k,((itF f v (k + 1) : Nat) : Int) = gi wl (itF f v k):=fun k=>(hf _ (hlt k)).1.symm
 have hf0 : itF f v 0 = v:=rfl
 unfold fm dQ
 clear hf
 generalize itF f v = f at *
 (refine bR aG Try.func129 rfl rfl (by kernel_rfl) fun hp0 ν hX hN=>?_;simp only [cI,Nat.reduceAdd])
 (repeat' (first|(with_reducible first|(refine hK _ _ ?_;clear hK K)|(refine aa _ ?_;clear aa K)|(refine ab _ _ _ ?_;clear ab K)|(refine ac _ _ ?_;clear ac K)|refine bd ?_|refine bG ?_|refine aV ?_|refine az ?_|refine ay ?_|refine bH ?_|refine aI ?_|refine aW ?_|refine bI ?_|refine aX ?_|refine aY rfl ?_|refine be ?_|refine aZ ?_|refine bJ ?_|refine ba ?_|refine aH ?_|refine n_k ?_|refine bc ?_|(refine ae ?_;clear ae X af Y)|(refine af ?_;clear ae X af Y))|(with_reducible refine bi ?_;first|refine bg rfl ?_|refine bh rfl ?_)|(with_reducible refine aQ ?_;first|refine aA rfl rfl rfl rfl ?_|refine aK rfl rfl rfl ?_|refine bn rfl rfl rfl rfl ?_)|(with_reducible refine bF ?_;first|refine aS rfl rfl rfl rfl ?_|refine bC rfl rfl rfl ?_|refine bV rfl rfl rfl rfl ?_|refine bW hN (by apply Exists.intro;apply And.intro;(repeat' (first|apply FtI.nil|apply FI.nil|apply FI.cons|apply FtI.cons));kernel_rfl) ?_)|((first|(with_reducible first|refine bj rfl rfl fun K hK=>?_|refine bT rfl rfl fun K ab=>?_|refine bm rfl rfl fun K aa=>?_|refine bU rfl rfl fun K ac=>?_|refine aJ fun X Y ae af=>?_|refine aL ?_));simp (disch:=first|decide|omega|(simp only [List.length_cons,List.length_nil];omega)) only [go_sem,beq_self_eq_true,↓ag,↓ak hN,ao hN,reduceIte,reduceCtorEq,Nat.reduceAdd,Nat.reduceLT,Nat.reduceLeDiff,Nat.reduceEqDiff,Nat.reduceSub])|(with_reducible refine And.intro (fun h=>?_) (fun h=>?_) <;> try (exfalso;omega))|(with_reducible refine bf aG hN rfl ?_ ?_;kernel_rfl)|(with_reducible refine aU aG hN rfl ?_ ?_ ?_ ?_;(kernel_rfl);(kernel_rfl);(kernel_rfl))|(with_reducible refine And.intro ?_ ?_)|(refine aj ?_;omega)|(exact bo hN (by decide))))
 (refine cR (fun (k : Nat)=>(tmL [(5,.sl (ν 1)),(1,.c (.int .i64 (f k : Nat))),(4,.ad (ν 0) 0),(0,.c (.I wl))],hpL hp0 ν [.box [.c .nul,.c .nul],.arr 2 .yes (.I (dJ f k))])) (fun (k : Nat)=>(k ≤ n ∧ ∀ i j,i < j → j < k → f i ≠ f j) ∧ fH f (n - k) k = eS f n) (fun (k : Nat)=>n + 1 - k) ⟨0,?_,co hX hN [] ?_ ?_⟩ ?_;(repeat' (first|(with_reducible first|exact cf _|exact cg|exact ci|refine cj ?_ ?_|refine ck ?_ ?_|exact bv _|exact cc _|exact aR _|rfl|exact bM _ _|refine bx ?_|exact ce _|refine bQ ?_)|refine cm rfl ?_ ?_|exact bN hN _ rfl rfl rfl|exact bO hN _ rfl rfl rfl|exact bz hN _ rfl rfl rfl (Or.inr rfl)|(refine bP hN _ rfl rfl (by first|exact Or.inr rfl|exact Or.inl rfl) ?_;first|exact aE _|exact aF _)|refine bA hN rfl ?_|refine bB hN rfl rfl ?_|exact bw hN _ rfl rfl|exact bu hN rfl rfl rfl rfl|(with_reducible first|refine bL ?_|refine bZ ?_|refine b7 ?_|refine b8 ?_|refine b9 ?_|refine bY ?_)));(try (any_goals (first|(with_reducible rfl)|(refine aj ?_;omega)))))
 · exact ⟨⟨Nat.zero_le _,fun i j _ h=>absurd h (Nat.not_lt_zero _)⟩,rfl⟩
 · rfl
 rintro k ⟨⟨hk,hd⟩,hF⟩
 have hwl:=d8 f k
 have hfk:=hlt k
 by_cases hit : ∃ j,j < k ∧ f j = f k
 · rw [iS hit] at hF
   rw [← hF] at hend ⊢
   obtain ⟨_,e1,e2,_⟩:=hend
   have c4:=eo (dJ f k) (f k)
   rw [aP (kv.2 hit)] at c4
   have c5:=mS (dJ f k) (f k)
   rw [e1] at c5
   generalize atA f n = p at *
   (repeat' (first|(with_reducible refine eg 6 ?_)|(with_reducible first|(refine hK _ _ ?_;clear hK K)|(refine aa _ ?_;clear aa K)|(refine ab _ _ _ ?_;clear ab K)|(refine ac _ _ ?_;clear ac K)|refine bd ?_|refine bG ?_|refine aV ?_|refine az ?_|refine ay ?_|refine bH ?_|refine aI ?_|refine aW ?_|refine bI ?_|refine aX ?_|refine aY rfl ?_|refine be ?_|refine aZ ?_|refine bJ ?_|refine ba ?_|refine aH ?_|refine n_k ?_|refine bc ?_|(refine ae ?_;clear ae X af Y)|(refine af ?_;clear ae X af Y))|(with_reducible refine bi ?_;first|refine bg rfl ?_|refine bh rfl ?_)|(with_reducible refine aQ ?_;first|refine aA rfl rfl rfl rfl ?_|refine aK rfl rfl rfl ?_|refine bn rfl rfl rfl rfl ?_)|(with_reducible refine bF ?_;first|refine aS rfl rfl rfl rfl ?_|refine bC rfl rfl rfl ?_|refine bV rfl rfl rfl rfl ?_|refine bW hN (by apply Exists.intro;apply And.intro;(repeat' (first|apply FtI.nil|apply FI.nil|apply FI.cons|apply FtI.cons));kernel_rfl) ?_)|((first|(with_reducible first|refine bj rfl rfl fun K hK=>?_|refine bT rfl rfl fun K ab=>?_|refine bm rfl rfl fun K aa=>?_|refine bU rfl rfl fun K ac=>?_|refine aJ fun X Y ae af=>?_|refine aL ?_));simp (disch:=first|decide|omega|(simp only [List.length_cons,List.length_nil];omega)) only [go_sem,beq_self_eq_true,↓ag,↓ak hN,ao hN,reduceIte,reduceCtorEq,Nat.reduceAdd,Nat.reduceLT,Nat.reduceLeDiff,Nat.reduceEqDiff,Nat.reduceSub])|(with_reducible refine And.intro (fun h=>?_) (fun h=>?_) <;> try (exfalso;omega))|(with_reducible refine bf aG hN rfl ?_ ?_;kernel_rfl)|(with_reducible refine aU aG hN rfl ?_ ?_ ?_ ?_;(kernel_rfl);(kernel_rfl);(kernel_rfl))|((first|refine aD (c4) ?_ rfl (fun _=>rfl) ?_|refine aD (c5) ?_ rfl (fun _=>rfl) ?_);focus ((repeat' (first|(with_reducible first|exact am|refine ah ?_ ?_|exact br _|refine aw ?_|exact au _|exact aO _ _|refine aN ?_|exact ap _)|exact ax hN rfl rfl|(refine aM hN rfl ?_;first|exact aE _|exact aF _)|exact aq rfl rfl rfl));done))|(with_reducible first|exact am|refine ah ?_ ?_|exact br _|refine aw ?_|exact au _|exact aO _ _|refine aN ?_|exact ap _)|exact ax hN rfl rfl|(refine aM hN rfl ?_;first|exact aE _|exact aF _)|exact aq rfl rfl rfl|(simp only [bE,List.map_nil])|(with_reducible refine bD ?_)|(with_reducible refine And.intro ?_ ?_)|(refine aj ?_;omega)|(exact bo hN (by decide))))
   have t1 : (List.drop (Int.toNat 0) (List.take p (dJ f k))).length = p:=by simp;omega
   have t2 : (List.drop p (List.take (dJ f k).length (dJ f k))).length = k - p:=by simp;omega
   have t3 : List.drop p (List.take (dJ f k).length (dJ f k)) = List.drop p (dJ f k):=by rw [List.take_length]
   (refine iP (co (L':=[.box [.c .nul,.c .nul],.dead]) (l:=[(5,.c (.I (dJ f k))),(6,.c (.int .i64 p)),(4,.ad (ν 0) 0)]) hX hN [] ?_ ?_) ?_;(repeat' (first|(with_reducible first|exact cf _|exact cg|exact ci|refine cj ?_ ?_|refine ck ?_ ?_|exact bv _|exact cc _|exact aR _|rfl|exact bM _ _|refine bx ?_|exact ce _|refine bQ ?_)|refine cm rfl ?_ ?_|exact bN hN _ rfl rfl rfl|exact bO hN _ rfl rfl rfl|exact bz hN _ rfl rfl rfl (Or.inr rfl)|(refine bP hN _ rfl rfl (by first|exact Or.inr rfl|exact Or.inl rfl) ?_;first|exact aE _|exact aF _)|refine bA hN rfl ?_|refine bB hN rfl rfl ?_|exact bw hN _ rfl rfl|exact bu hN rfl rfl rfl rfl|(with_reducible first|refine bL ?_|refine bZ ?_|refine b7 ?_|refine b8 ?_|refine b9 ?_|refine bY ?_)));(try (any_goals (first|(with_reducible rfl)|(refine aj ?_;omega)))))
   (repeat' (first|(with_reducible first|(refine hK _ _ ?_;clear hK K)|(refine aa _ ?_;clear aa K)|(refine ab _ _ _ ?_;clear ab K)|(refine ac _ _ ?_;clear ac K)|refine bd ?_|refine bG ?_|refine aV ?_|refine az ?_|refine ay ?_|refine bH ?_|refine aI ?_|refine aW ?_|refine bI ?_|refine aX ?_|refine aY rfl ?_|refine be ?_|refine aZ ?_|refine bJ ?_|refine ba ?_|refine aH ?_|refine n_k ?_|refine bc ?_|(refine ae ?_;clear ae X af Y)|(refine af ?_;clear ae X af Y))|(with_reducible refine bi ?_;first|refine bg rfl ?_|refine bh rfl ?_)|(with_reducible refine aQ ?_;first|refine aA rfl rfl rfl rfl ?_|refine aK rfl rfl rfl ?_|refine bn rfl rfl rfl rfl ?_)|(with_reducible refine bF ?_;first|refine aS rfl rfl rfl rfl ?_|refine bC rfl rfl rfl ?_|refine bV rfl rfl rfl rfl ?_|refine bW hN (by apply Exists.intro;apply And.intro;(repeat' (first|apply FtI.nil|apply FI.nil|apply FI.cons|apply FtI.cons));kernel_rfl) ?_)|((first|(with_reducible first|refine bj rfl rfl fun K hK=>?_|refine bT rfl rfl fun K ab=>?_|refine bm rfl rfl fun K aa=>?_|refine bU rfl rfl fun K ac=>?_|refine aJ fun X Y ae af=>?_|refine aL ?_));simp (disch:=first|decide|omega|(simp only [List.length_cons,List.length_nil];omega)) only [go_sem,beq_self_eq_true,↓ag,↓ak hN,ao hN,reduceIte,reduceCtorEq,Nat.reduceAdd,Nat.reduceLT,Nat.reduceLeDiff,Nat.reduceEqDiff,Nat.reduceSub])|(with_reducible refine And.intro (fun h=>?_) (fun h=>?_) <;> try (exfalso;omega))|(with_reducible refine bf aG hN rfl ?_ ?_;kernel_rfl)|(with_reducible refine aU aG hN rfl ?_ ?_ ?_ ?_;(kernel_rfl);(kernel_rfl);(kernel_rfl))|(with_reducible refine And.intro ?_ ?_)|(refine aj ?_;omega)|(exact bo hN (by decide))))
   (refine dF hN [] (by decide) (.inr rfl) (by first|exact cL rfl rfl|exact cF hN rfl rfl rfl rfl|exact cz hN rfl rfl rfl rfl rfl|(simp (disch:=first|decide|omega|(simp only [List.length_cons,List.length_nil];omega)) only [cB,cC,cD,cE,go_sem,beq_self_eq_true,↓ag,↓ak hN,ao hN,reduceIte,reduceCtorEq,Nat.reduceAdd,Nat.reduceLT,Nat.reduceLeDiff,Nat.reduceEqDiff,Nat.reduceSub];rfl)|rfl) ?_ fun νs hνs=>?_;(repeat' (first|exact Gone.nil|(refine Gone.cons rfl rfl ?_ ?_)|(with_reducible refine dh ?_)|(with_reducible refine dg ?_)|(with_reducible refine SVs.cons ?_ ?_)|(with_reducible exact SVs.nil)|(simp only [List.drop,List.take])|(simp (disch:=first|decide|omega) only [↓ag,reduceIte,reduceCtorEq,Nat.reduceEqDiff])|(with_reducible exact eP _)|(with_reducible exact dc _)|(exact df rfl rfl rfl)|(exact dC 0 (by simp) rfl rfl)|(refine dE hN rfl (di hN (by decide)) ?_)|(with_reducible refine dD ?_)|(with_reducible rfl)|(with_reducible refine bZ ?_)|(with_reducible refine b7 ?_)|(with_reducible refine b8 ?_)|(with_reducible refine b9 ?_)|(with_reducible refine bY ?_)|(refine aj ?_;omega))))
   all_goals first|rfl|rw [t3]
 · have c4:=eo (dJ f k) (f k)
   rw [aC (mt kv.1 hit)] at c4
   have hkn : k < n:=by
    have:=jk hlt (eR hd hit)
    omega
   rw [show n - k = (n - (k + 1)) + 1 by omega,g9 hit] at hF
   have hx:=hfx k
   (repeat' (first|(with_reducible first|(refine hK _ _ ?_;clear hK K)|(refine aa _ ?_;clear aa K)|(refine ab _ _ _ ?_;clear ab K)|(refine ac _ _ ?_;clear ac K)|refine bd ?_|refine bG ?_|refine aV ?_|refine az ?_|refine ay ?_|refine bH ?_|refine aI ?_|refine aW ?_|refine bI ?_|refine aX ?_|refine aY rfl ?_|refine be ?_|refine aZ ?_|refine bJ ?_|refine ba ?_|refine aH ?_|refine n_k ?_|refine bc ?_|(refine ae ?_;clear ae X af Y)|(refine af ?_;clear ae X af Y))|(with_reducible refine bi ?_;first|refine bg rfl ?_|refine bh rfl ?_)|(with_reducible refine aQ ?_;first|refine aA rfl rfl rfl rfl ?_|refine aK rfl rfl rfl ?_|refine bn rfl rfl rfl rfl ?_)|(with_reducible refine bF ?_;first|refine aS rfl rfl rfl rfl ?_|refine bC rfl rfl rfl ?_|refine bV rfl rfl rfl rfl ?_|refine bW hN (by apply Exists.intro;apply And.intro;(repeat' (first|apply FtI.nil|apply FI.nil|apply FI.cons|apply FtI.cons));kernel_rfl) ?_)|((first|(with_reducible first|refine bj rfl rfl fun K hK=>?_|refine bT rfl rfl fun K ab=>?_|refine bm rfl rfl fun K aa=>?_|refine bU rfl rfl fun K ac=>?_|refine aJ fun X Y ae af=>?_|refine aL ?_));simp (disch:=first|decide|omega|(simp only [List.length_cons,List.length_nil];omega)) only [go_sem,beq_self_eq_true,↓ag,↓ak hN,ao hN,reduceIte,reduceCtorEq,Nat.reduceAdd,Nat.reduceLT,Nat.reduceLeDiff,Nat.reduceEqDiff,Nat.reduceSub])|(with_reducible refine And.intro (fun h=>?_) (fun h=>?_) <;> try (exfalso;omega))|(with_reducible refine bf aG hN rfl ?_ ?_;kernel_rfl)|(with_reducible refine aU aG hN rfl ?_ ?_ ?_ ?_;(kernel_rfl);(kernel_rfl);(kernel_rfl))|(refine aD (c4) ?_ rfl (fun _=>rfl) ?_;focus ((repeat' (first|(with_reducible first|exact am|refine ah ?_ ?_|exact br _|refine aw ?_|exact au _|exact aO _ _|refine aN ?_|exact ap _)|exact ax hN rfl rfl|(refine aM hN rfl ?_;first|exact aE _|exact aF _)|exact aq rfl rfl rfl));done))|(with_reducible first|exact am|refine ah ?_ ?_|exact br _|refine aw ?_|exact au _|exact aO _ _|refine aN ?_|exact ap _)|exact ax hN rfl rfl|(refine aM hN rfl ?_;first|exact aE _|exact aF _)|exact aq rfl rfl rfl|(simp only [bE,List.map_nil])|(with_reducible refine bD ?_)|(with_reducible refine And.intro ?_ ?_)|(refine aj ?_;omega)|(exact bo hN (by decide))))
   (refine ⟨k + 1,⟨?_,?_⟩,co hX hN [(1,3)] ?_ ?_⟩;(try any_goals dsimp only);(repeat' (first|(with_reducible first|exact cf _|exact cg|exact ci|refine cj ?_ ?_|refine ck ?_ ?_|exact bv _|exact cc _|exact aR _|rfl|exact bM _ _|refine bx ?_|exact ce _|refine bQ ?_)|refine cm rfl ?_ ?_|exact bN hN _ rfl rfl rfl|exact bO hN _ rfl rfl rfl|exact bz hN _ rfl rfl rfl (Or.inr rfl)|(refine bP hN _ rfl rfl (by first|exact Or.inr rfl|exact Or.inl rfl) ?_;first|exact aE _|exact aF _)|refine bA hN rfl ?_|refine bB hN rfl rfl ?_|exact bw hN _ rfl rfl|exact bu hN rfl rfl rfl rfl|(with_reducible first|refine bL ?_|refine bZ ?_|refine b7 ?_|refine b8 ?_|refine b9 ?_|refine bY ?_)));(try (any_goals (first|(with_reducible rfl)|(refine aj ?_;omega)))))
   · exact ⟨⟨by omega,eR hd hit⟩,hF⟩
   · exact li f k
end Go.Proofs.Ytiadchinhofieaa
