/-
  Full plans that the dice draw.
-/
import Derived.Test.YtiadchinhofieaaZqR7
import Derived.Test.YtiadchinhofieaaZqR6
import Derived.Test.YtiadchinhofieaaZqD8
namespace Go.Proofs.Ytiadchinhofieaa
set_option linter.unusedVariables false
set_option linter.unusedSimpArgs false
open Go.RowKit
attribute [local irreducible] bt cU Aw Le
def f4 (a : Ar) (who : Int) : Nat → Nat → Dc → List Int → List Int × Dc
 | 0, _, d, o => (o, d)
 | k + 1, v, d, o => if gi a.own v = who then f4 a who k (v + 1) d.nxt (o ++ [gi (gr a.nxt v) (d.val (gr a.nxt v).length).toNat]) else f4 a who k (v + 1) d (o ++ [-1])
def ik (d : Dc) (a : Ar) (who : Int) : List Int × Dc:=f4 a who a.own.length 0 d []
def qM (a : Ar) (who : Int) (o : List Int) (v : Nat) : Prop:=(gi a.own v = who → gi o v ∈ gr a.nxt v) ∧ (gi a.own v ≠ who → gi o v = -1)
theorem oz {a : Ar} (ha : ArOk a) {who : Int} : ∀ (k v : Nat) (d : Dc) (o : List Int),k + v = a.own.length → o.length = v → (∀ j,j < v → qM a who o j) → (f4 a who k v d o).1.length = a.own.length ∧ ∀ j,j < a.own.length → qM a who (f4 a who k v d o).1 j:=by
 intro k
 induction k with
 | zero => intro v d o h1 h2 h3; exact ⟨by show o.length = _; omega, fun j hj => h3 j (by omega)⟩
 | succ k ih =>
   intro v d o h1 h2 h3
   have hcv:=ha.vert v (by omega)
   have hb:=d.bnd (n:=(gr a.nxt v).length) (by omega)
   have key : ∀ x : Int,((gi a.own v = who → x ∈ gr a.nxt v) ∧ (gi a.own v ≠ who → x = -1)) → ∀ j,j < v + 1 → qM a who (o ++ [x]) j:=fun x hx j hj=>by
    unfold qM
    by_cases e : j < o.length
    · rw [pu e];exact h3 j (by omega)
    · have : j = o.length:=by omega
      subst this
      rw [pw,h2]
      exact hx
   unfold f4
   split
   · rename_i e
     exact ih (v + 1) _ _ (by omega) (by simp [h2]) (key _ ⟨fun _=>dK (by omega),fun h=>absurd e h⟩)
   · rename_i e
     exact ih (v + 1) _ _ (by omega) (by simp [h2]) (key _ ⟨fun h=>absurd h e,fun _=>rfl⟩)
theorem iY {g : Pa} (hg : PaOk g) {who : Int} (d : Dc) : cN g.ar who (ik d g.ar who).1:=by
 obtain ⟨h1,h2⟩:=oz hg.ar (who:=who) g.ar.own.length 0 d [] rfl rfl fun j hj=>absurd hj (Nat.not_lt_zero _)
 have hl:=hg.len
 refine ⟨⟨h1,fun v hv=>?_⟩,fun v hv ho=>?_⟩
 · have h3:=h2 v (by unfold ik at hv;omega)
   by_cases e : gi g.ar.own v = who
   · exact .inr ⟨e,h3.1 e⟩
   · exact .inl (h3.2 e)
 · have h3:=h2 v (by unfold ik at hv;omega)
   exact (uR hg (by unfold ik at hv;omega) (h3.1 ho)).1
set_option maxHeartbeats 1000000 in
theorem ln (d : Dc) (a : Ar) (ha : ArOk a) (who : Int) : eE Try.prog 52 (fun ν=>[.ad (ν 0) 0,arA a,.c (.int .i64 who)]) [diE d] [diE (ik d a who).2] [.arr 2 .yes (.I (ik d a who).1)] (fun ns=>.sl (ns.getD 0 0)):=by
 have hle:=ha.le
 have hln:=ha.len
 have hG : ik d a who = f4 a who a.own.length 0 d []:=rfl
 generalize ik d a who = G at *
 (refine gJ aG Try.func52 rfl rfl (fun _=>by kernel_rfl) rfl rfl rfl rfl (by first|exact kr _|exact jh (j:=0) (by simp) (by simp [Ent.kind])|exact ji (j:=0) (by simp) (by simp [Ent.kind])|exact gI rfl|exact iB|exact kt _) fun hp0 ν hX hN=>?_;simp only [cI,Nat.reduceAdd])
 (repeat' (first|(with_reducible first|(refine hK _ _ ?_;clear hK K)|(refine aa _ ?_;clear aa K)|(refine ab _ _ _ ?_;clear ab K)|(refine ac _ _ ?_;clear ac K)|refine bd ?_|refine bG ?_|refine aV ?_|refine az ?_|refine ay ?_|refine bH ?_|refine aI ?_|refine aW ?_|refine bI ?_|refine aX ?_|refine aY rfl ?_|refine be ?_|refine aZ ?_|refine bJ ?_|refine ba ?_|refine aH ?_|refine n_k ?_|refine bc ?_|(refine ae ?_;clear ae X af Y)|(refine af ?_;clear ae X af Y))|(with_reducible refine bi ?_;first|refine bg rfl ?_|refine bh rfl ?_)|(with_reducible refine aQ ?_;first|refine aA rfl rfl rfl rfl ?_|refine aK rfl rfl rfl ?_|refine bn rfl rfl rfl rfl ?_)|(with_reducible refine bF ?_;first|refine aS rfl rfl rfl rfl ?_|refine bC rfl rfl rfl ?_|refine bV rfl rfl rfl rfl ?_|refine bW hN (by apply Exists.intro;apply And.intro;(repeat' (first|apply FtI.nil|apply FI.nil|apply FI.cons|apply FtI.cons));kernel_rfl) ?_)|((first|(with_reducible first|refine bj rfl rfl fun K hK=>?_|refine bT rfl rfl fun K ab=>?_|refine bm rfl rfl fun K aa=>?_|refine bU rfl rfl fun K ac=>?_|refine aJ fun X Y ae af=>?_|refine aL ?_));simp (disch:=first|decide|omega|(simp only [List.length_cons,List.length_nil];omega)) only [go_sem,beq_self_eq_true,↓ag,↓ak hN,ao hN,reduceIte,reduceCtorEq,Nat.reduceAdd,Nat.reduceLT,Nat.reduceLeDiff,Nat.reduceEqDiff,Nat.reduceSub])|(with_reducible refine And.intro (fun h=>?_) (fun h=>?_) <;> try (exfalso;omega))|(with_reducible refine bf aG hN rfl ?_ ?_;kernel_rfl)|(with_reducible refine aU aG hN rfl ?_ ?_ ?_ ?_;(kernel_rfl);(kernel_rfl);(kernel_rfl))|(with_reducible refine And.intro ?_ ?_)|(refine aj ?_;omega)|(exact bo hN (by decide))))
 (refine cR (fun (x : Nat × Dc × List Int)=>(tmL [(8,.c (.int .i64 x.1)),(7,.sl (ν 2)),(4,.ad (ν 1) 0),(0,.ad (ν 0) 0),(2,.c (.int .i64 who))],hpL hp0 ν [diE x.2.1,.box [.c (.I a.own),.c (.R a.nxt)],.arr 2 .yes (.I x.2.2)])) (fun (x : Nat × Dc × List Int)=>(x.1 ≤ a.own.length ∧ x.2.2.length = x.1) ∧ f4 a who (a.own.length - x.1) x.1 x.2.1 x.2.2 = G) (fun (x : Nat × Dc × List Int)=>a.own.length - x.1) ⟨(0,d,[]),?_,co hX hN [] ?_ ?_⟩ ?_;(repeat' (first|(with_reducible first|exact cf _|exact cg|exact ci|refine cj ?_ ?_|refine ck ?_ ?_|exact bv _|exact cc _|exact aR _|rfl|exact bM _ _|refine bx ?_|exact ce _|refine bQ ?_)|refine cm rfl ?_ ?_|exact bN hN _ rfl rfl rfl|exact bO hN _ rfl rfl rfl|exact bz hN _ rfl rfl rfl (Or.inr rfl)|(refine bP hN _ rfl rfl (by first|exact Or.inr rfl|exact Or.inl rfl) ?_;first|exact aE _|exact aF _)|refine bA hN rfl ?_|refine bB hN rfl rfl ?_|exact bw hN _ rfl rfl|exact bu hN rfl rfl rfl rfl|(with_reducible first|refine bL ?_|refine bZ ?_|refine b7 ?_|refine b8 ?_|refine b9 ?_|refine bY ?_)));(try (any_goals (first|(with_reducible rfl)|(refine aj ?_;omega)))))
 · exact ⟨⟨Nat.zero_le _,rfl⟩,hG.symm⟩
 rintro ⟨v,dd,o⟩ ⟨⟨hv,ho⟩,hGo⟩
 simp only at hv ho hGo
 dsimp only
 by_cases hvl : v < a.own.length
 · have hcv:=ha.vert v hvl
   have hb:=dd.bnd (n:=(gr a.nxt v).length) (by omega)
   rw [show a.own.length - v = (a.own.length - (v + 1)) + 1 by omega,f4] at hGo
   by_cases e : gi a.own v = who
   · rw [if_pos e] at hGo
     (repeat' (first|(with_reducible first|(refine hK _ _ ?_;clear hK K)|(refine aa _ ?_;clear aa K)|(refine ab _ _ _ ?_;clear ab K)|(refine ac _ _ ?_;clear ac K)|refine bd ?_|refine bG ?_|refine aV ?_|refine az ?_|refine ay ?_|refine bH ?_|refine aI ?_|refine aW ?_|refine bI ?_|refine aX ?_|refine aY rfl ?_|refine be ?_|refine aZ ?_|refine bJ ?_|refine ba ?_|refine aH ?_|refine n_k ?_|refine bc ?_|(refine ae ?_;clear ae X af Y)|(refine af ?_;clear ae X af Y))|(with_reducible refine bi ?_;first|refine bg rfl ?_|refine bh rfl ?_)|(with_reducible refine aQ ?_;first|refine aA rfl rfl rfl rfl ?_|refine aK rfl rfl rfl ?_|refine bn rfl rfl rfl rfl ?_)|(with_reducible refine bF ?_;first|refine aS rfl rfl rfl rfl ?_|refine bC rfl rfl rfl ?_|refine bV rfl rfl rfl rfl ?_|refine bW hN (by apply Exists.intro;apply And.intro;(repeat' (first|apply FtI.nil|apply FI.nil|apply FI.cons|apply FtI.cons));kernel_rfl) ?_)|((first|(with_reducible first|refine bj rfl rfl fun K hK=>?_|refine bT rfl rfl fun K ab=>?_|refine bm rfl rfl fun K aa=>?_|refine bU rfl rfl fun K ac=>?_|refine aJ fun X Y ae af=>?_|refine aL ?_));simp (disch:=first|decide|omega|(simp only [List.length_cons,List.length_nil];omega)) only [go_sem,beq_self_eq_true,↓ag,↓ak hN,ao hN,reduceIte,reduceCtorEq,Nat.reduceAdd,Nat.reduceLT,Nat.reduceLeDiff,Nat.reduceEqDiff,Nat.reduceSub])|(with_reducible refine And.intro (fun h=>?_) (fun h=>?_) <;> try (exfalso;omega))|(with_reducible refine bf aG hN rfl ?_ ?_;kernel_rfl)|(with_reducible refine aU aG hN rfl ?_ ?_ ?_ ?_;(kernel_rfl);(kernel_rfl);(kernel_rfl))|(refine dm (iC dd (gr a.nxt v).length (by omega)) hN 0 rfl rfl rfl rfl rfl ?_ ?_ ?_ ?_;(focus (simp [bX,AV.names];done));(focus (intro ν' hν;(repeat' (first|exact ArgMs.nil|refine ArgMs.cons ?_ ?_|exact fb hν|exact fc hν|exact fZ _|exact fN (by first|exact au _|exact ap _|exact aq rfl rfl rfl) rfl|(refine fe hN rfl ?_ (by decide);first|exact aE _|exact aF _)|refine dz ?_));done));(focus (first|exact Or.inr ⟨rfl,rfl,fun _=>rfl⟩|exact Or.inl (by simp [bX,AV.names]))))|(with_reducible first|exact am|refine ah ?_ ?_|exact br _|refine aw ?_|exact au _|exact aO _ _|refine aN ?_|exact ap _)|exact ax hN rfl rfl|(refine aM hN rfl ?_;first|exact aE _|exact aF _)|exact aq rfl rfl rfl|(simp only [bE,List.map_nil])|(with_reducible refine bD ?_)|(simp (disch:=first|decide|omega|(simp only [List.length_cons,List.length_nil];omega)) only [bE,List.map_cons,List.map_nil,ao hN,List.set_cons_zero,List.set_cons_succ])|(with_reducible refine And.intro ?_ ?_)|(refine aj ?_;omega)|(exact bo hN (by decide))))
     all_goals first|(exact absurd e (dp (by assumption)))|skip
     (refine ⟨(v + 1,dd.nxt,o ++ [gi (gr a.nxt v) (dd.val (gr a.nxt v).length).toNat]),⟨?_,?_⟩,co hX hN [(2,4)] ?_ ?_⟩;(try any_goals dsimp only);(repeat' (first|(with_reducible first|exact cf _|exact cg|exact ci|refine cj ?_ ?_|refine ck ?_ ?_|exact bv _|exact cc _|exact aR _|rfl|exact bM _ _|refine bx ?_|exact ce _|refine bQ ?_)|refine cm rfl ?_ ?_|exact bN hN _ rfl rfl rfl|exact bO hN _ rfl rfl rfl|exact bz hN _ rfl rfl rfl (Or.inr rfl)|(refine bP hN _ rfl rfl (by first|exact Or.inr rfl|exact Or.inl rfl) ?_;first|exact aE _|exact aF _)|refine bA hN rfl ?_|refine bB hN rfl rfl ?_|exact bw hN _ rfl rfl|exact bu hN rfl rfl rfl rfl|(with_reducible first|refine bL ?_|refine bZ ?_|refine b7 ?_|refine b8 ?_|refine b9 ?_|refine bY ?_)));(try (any_goals (first|(with_reducible rfl)|(refine aj ?_;omega)))))
     exact ⟨⟨by omega,by simp [ho]⟩,hGo⟩
   · rw [if_neg e] at hGo
     (repeat' (first|(with_reducible first|(refine hK _ _ ?_;clear hK K)|(refine aa _ ?_;clear aa K)|(refine ab _ _ _ ?_;clear ab K)|(refine ac _ _ ?_;clear ac K)|refine bd ?_|refine bG ?_|refine aV ?_|refine az ?_|refine ay ?_|refine bH ?_|refine aI ?_|refine aW ?_|refine bI ?_|refine aX ?_|refine aY rfl ?_|refine be ?_|refine aZ ?_|refine bJ ?_|refine ba ?_|refine aH ?_|refine n_k ?_|refine bc ?_|(refine ae ?_;clear ae X af Y)|(refine af ?_;clear ae X af Y))|(with_reducible refine bi ?_;first|refine bg rfl ?_|refine bh rfl ?_)|(with_reducible refine aQ ?_;first|refine aA rfl rfl rfl rfl ?_|refine aK rfl rfl rfl ?_|refine bn rfl rfl rfl rfl ?_)|(with_reducible refine bF ?_;first|refine aS rfl rfl rfl rfl ?_|refine bC rfl rfl rfl ?_|refine bV rfl rfl rfl rfl ?_|refine bW hN (by apply Exists.intro;apply And.intro;(repeat' (first|apply FtI.nil|apply FI.nil|apply FI.cons|apply FtI.cons));kernel_rfl) ?_)|((first|(with_reducible first|refine bj rfl rfl fun K hK=>?_|refine bT rfl rfl fun K ab=>?_|refine bm rfl rfl fun K aa=>?_|refine bU rfl rfl fun K ac=>?_|refine aJ fun X Y ae af=>?_|refine aL ?_));simp (disch:=first|decide|omega|(simp only [List.length_cons,List.length_nil];omega)) only [go_sem,beq_self_eq_true,↓ag,↓ak hN,ao hN,reduceIte,reduceCtorEq,Nat.reduceAdd,Nat.reduceLT,Nat.reduceLeDiff,Nat.reduceEqDiff,Nat.reduceSub])|(with_reducible refine And.intro (fun h=>?_) (fun h=>?_) <;> try (exfalso;omega))|(with_reducible refine bf aG hN rfl ?_ ?_;kernel_rfl)|(with_reducible refine aU aG hN rfl ?_ ?_ ?_ ?_;(kernel_rfl);(kernel_rfl);(kernel_rfl))|(with_reducible refine And.intro ?_ ?_)|(refine aj ?_;omega)|(exact bo hN (by decide))))
     all_goals first|(exact absurd (by assumption) e)|skip
     (refine ⟨(v + 1,dd,o ++ [-1]),⟨?_,?_⟩,co hX hN [(2,4)] ?_ ?_⟩;(try any_goals dsimp only);(repeat' (first|(with_reducible first|exact cf _|exact cg|exact ci|refine cj ?_ ?_|refine ck ?_ ?_|exact bv _|exact cc _|exact aR _|rfl|exact bM _ _|refine bx ?_|exact ce _|refine bQ ?_)|refine cm rfl ?_ ?_|exact bN hN _ rfl rfl rfl|exact bO hN _ rfl rfl rfl|exact bz hN _ rfl rfl rfl (Or.inr rfl)|(refine bP hN _ rfl rfl (by first|exact Or.inr rfl|exact Or.inl rfl) ?_;first|exact aE _|exact aF _)|refine bA hN rfl ?_|refine bB hN rfl rfl ?_|exact bw hN _ rfl rfl|exact bu hN rfl rfl rfl rfl|(with_reducible first|refine bL ?_|refine bZ ?_|refine b7 ?_|refine b8 ?_|refine b9 ?_|refine bY ?_)));(try (any_goals (first|(with_reducible rfl)|(refine aj ?_;omega)))))
     exact ⟨⟨by omega,by simp [ho]⟩,hGo⟩
 · rw [show a.own.length - v = 0 by omega,f4] at hGo
   subst hGo
   (repeat' (first|(with_reducible first|(refine hK _ _ ?_;clear hK K)|(refine aa _ ?_;clear aa K)|(refine ab _ _ _ ?_;clear ab K)|(refine ac _ _ ?_;clear ac K)|refine bd ?_|refine bG ?_|refine aV ?_|refine az ?_|refine ay ?_|refine bH ?_|refine aI ?_|refine aW ?_|refine bI ?_|refine aX ?_|refine aY rfl ?_|refine be ?_|refine aZ ?_|refine bJ ?_|refine ba ?_|refine aH ?_|refine n_k ?_|refine bc ?_|(refine ae ?_;clear ae X af Y)|(refine af ?_;clear ae X af Y))|(with_reducible refine bi ?_;first|refine bg rfl ?_|refine bh rfl ?_)|(with_reducible refine aQ ?_;first|refine aA rfl rfl rfl rfl ?_|refine aK rfl rfl rfl ?_|refine bn rfl rfl rfl rfl ?_)|(with_reducible refine bF ?_;first|refine aS rfl rfl rfl rfl ?_|refine bC rfl rfl rfl ?_|refine bV rfl rfl rfl rfl ?_|refine bW hN (by apply Exists.intro;apply And.intro;(repeat' (first|apply FtI.nil|apply FI.nil|apply FI.cons|apply FtI.cons));kernel_rfl) ?_)|((first|(with_reducible first|refine bj rfl rfl fun K hK=>?_|refine bT rfl rfl fun K ab=>?_|refine bm rfl rfl fun K aa=>?_|refine bU rfl rfl fun K ac=>?_|refine aJ fun X Y ae af=>?_|refine aL ?_));simp (disch:=first|decide|omega|(simp only [List.length_cons,List.length_nil];omega)) only [go_sem,beq_self_eq_true,↓ag,↓ak hN,ao hN,reduceIte,reduceCtorEq,Nat.reduceAdd,Nat.reduceLT,Nat.reduceLeDiff,Nat.reduceEqDiff,Nat.reduceSub])|(with_reducible refine And.intro (fun h=>?_) (fun h=>?_) <;> try (exfalso;omega))|(with_reducible refine bf aG hN rfl ?_ ?_;kernel_rfl)|(with_reducible refine aU aG hN rfl ?_ ?_ ?_ ?_;(kernel_rfl);(kernel_rfl);(kernel_rfl))|(with_reducible refine And.intro ?_ ?_)|(refine aj ?_;omega)|(exact bo hN (by decide))))
   (refine ⟨.inr rfl,_,(by first|exact cL rfl rfl|exact cF hN rfl rfl rfl rfl|exact cz hN rfl rfl rfl rfl rfl|(simp (disch:=first|decide|omega|(simp only [List.length_cons,List.length_nil];omega)) only [cB,cC,cD,cE,go_sem,beq_self_eq_true,↓ag,↓ak hN,ao hN,reduceIte,reduceCtorEq,Nat.reduceAdd,Nat.reduceLT,Nat.reduceLeDiff,Nat.reduceEqDiff,Nat.reduceSub];rfl)|rfl),[(1,2)],_,rfl,?_,rfl,?_⟩;(all_goals try simp only [List.drop,List.take,List.cons_append,List.nil_append,nmL,List.length_cons,List.length_nil,Nat.reduceAdd,List.getD_cons_zero]);(repeat' (first|(with_reducible first|exact cf _|exact cg|exact ci|refine cj ?_ ?_|refine ck ?_ ?_|exact bv _|exact cc _|exact aR _|rfl|exact bM _ _|refine bx ?_|exact ce _|refine bQ ?_)|refine cm rfl ?_ ?_|exact bN hN _ rfl rfl rfl|exact bO hN _ rfl rfl rfl|exact bz hN _ rfl rfl rfl (Or.inr rfl)|(refine bP hN _ rfl rfl (by first|exact Or.inr rfl|exact Or.inl rfl) ?_;first|exact aE _|exact aF _)|refine bA hN rfl ?_|refine bB hN rfl rfl ?_|exact bw hN _ rfl rfl|exact bu hN rfl rfl rfl rfl|(with_reducible first|refine bL ?_|refine bZ ?_|refine b7 ?_|refine b8 ?_|refine b9 ?_|refine bY ?_))))
end Go.Proofs.Ytiadchinhofieaa
