/-
  Full plans that the dice draw.
-/
import Derived.Test.YtiadchinhofieaaGreatZfR7
import Derived.Test.YtiadchinhofieaaGreatZfR6
import Derived.Test.YtiadchinhofieaaGreatZfD8
namespace Go.Proofs.YtiadchinhofieaaGreat
set_option linter.unusedVariables false
set_option linter.unusedSimpArgs false
open Go.RowKit
attribute [local irreducible] aO ck Aw Le
def ge (a : Ar) (who : Int) : Nat → Nat → Dc → List Int → List Int × Dc
 | 0, _, d, o => (o, d)
 | k + 1, v, d, o => if gi a.own v = who then ge a who k (v + 1) d.nxt (o ++ [gi (gr a.nxt v) (d.val (gr a.nxt v).length).toNat]) else ge a who k (v + 1) d (o ++ [-1])
def jM (d : Dc) (a : Ar) (who : Int) : List Int × Dc:=ge a who a.own.length 0 d []
def r7 (a : Ar) (who : Int) (o : List Int) (v : Nat) : Prop:=(gi a.own v = who → gi o v ∈ gr a.nxt v) ∧ (gi a.own v ≠ who → gi o v = -1)
theorem pR {a : Ar} (ha : ArOk a) {who : Int} : ∀ (k v : Nat) (d : Dc) (o : List Int),k + v = a.own.length → o.length = v → (∀ j,j < v → r7 a who o j) → (ge a who k v d o).1.length = a.own.length ∧ ∀ j,j < a.own.length → r7 a who (ge a who k v d o).1 j:=by
 intro k
 induction k with
 | zero => intro v d o h1 h2 h3; exact ⟨by show o.length = _; omega, fun j hj => h3 j (by omega)⟩
 | succ k ih =>
   intro v d o h1 h2 h3
   have hcv:=ha.vert v (by omega)
   have hb:=d.bnd (n:=(gr a.nxt v).length) (by omega)
   have key : ∀ x : Int,((gi a.own v = who → x ∈ gr a.nxt v) ∧ (gi a.own v ≠ who → x = -1)) → ∀ j,j < v + 1 → r7 a who (o ++ [x]) j:=fun x hx j hj=>by
    unfold r7
    by_cases e : j < o.length
    · rw [fH e];exact h3 j (by omega)
    · have : j = o.length:=by omega
      subst this
      rw [jc,h2]
      exact hx
   unfold ge
   split
   · rename_i e
     exact ih (v + 1) _ _ (by omega) (by simp [h2]) (key _ ⟨fun _=>cD (by omega),fun h=>absurd e h⟩)
   · rename_i e
     exact ih (v + 1) _ _ (by omega) (by simp [h2]) (key _ ⟨fun h=>absurd h e,fun _=>rfl⟩)
theorem re {g : Pa} (hg : PaOk g) {who : Int} (d : Dc) : b9 g.ar who (jM d g.ar who).1:=by
 obtain ⟨h1,h2⟩:=pR hg.ar (who:=who) g.ar.own.length 0 d [] rfl rfl fun j hj=>absurd hj (Nat.not_lt_zero _)
 have hl:=hg.len
 refine ⟨⟨h1,fun v hv=>?_⟩,fun v hv ho=>?_⟩
 · have h3:=h2 v (by unfold jM at hv;omega)
   by_cases e : gi g.ar.own v = who
   · exact .inr ⟨e,h3.1 e⟩
   · exact .inl (h3.2 e)
 · have h3:=h2 v (by unfold jM at hv;omega)
   exact (w7 hg (by unfold jM at hv;omega) (h3.1 ho)).1
set_option maxHeartbeats 1000000 in
theorem vU (d : Dc) (a : Ar) (ha : ArOk a) (who : Int) : dx Tryz.prog 10 (fun ν=>[.ad (ν 0) 0,arA a,.c (.int .i64 who)]) [diE d] [diE (jM d a who).2] [.arr 2 .yes (.I (jM d a who).1)] (fun ns=>.sl (ns.getD 0 0)):=by
 have hle:=ha.le
 have hln:=ha.len
 have hG : jM d a who = ge a who a.own.length 0 d []:=rfl
 generalize jM d a who = G at *
 (refine fC ap Tryz.func10 rfl rfl (fun _=>by kernel_rfl) rfl rfl rfl rfl (by first|exact jv _|exact ic (j:=0) (by simp) (by simp [Ent.kind])|exact ig (j:=0) (by simp) (by simp [Ent.kind])|exact fB rfl|exact gn|exact jw _) fun hp0 ν hX hN=>?_;simp only [bU,Nat.reduceAdd])
 (repeat' (first|(with_reducible first|(apply hK;clear hK K)|refine stZ ?_|refine aD rfl ?_|((first|apply ae|apply af);clear ae X af Y))|(with_reducible refine aG ?_;first|refine aE rfl ?_|refine aF rfl ?_)|(with_reducible refine ba ?_;refine bd hN ?_)|((with_reducible first|((first|refine aJ ?_|refine bf ?_|refine aK ?_|refine bg ?_);intro K hK)|(refine am ?_;intro X Y ae af)|refine ao ?_);simp (disch:=first|decide|omega|(simp only [List.length_cons,List.length_nil];omega)) only [go_sem,↓aj hN,ak hN,reduceIte,reduceCtorEq,Nat.reduceAdd,Nat.reduceLT,Nat.reduceLeDiff,Nat.reduceEqDiff,Nat.reduceSub])|(with_reducible refine And.intro (fun h=>?_) (fun h=>?_) <;> try (exfalso;omega))|(with_reducible refine aI ap hN ?_)|(with_reducible refine aC ap hN ?_)|(with_reducible refine And.intro ?_ ?_)|(refine ah ?_;omega)|(exact aH hN (by decide))))
 (refine bN (fun (x : Nat × Dc × List Int)=>(tmL [(8,.c (.int .i64 x.1)),(7,.sl (ν 2)),(4,.ad (ν 1) 0),(0,.ad (ν 0) 0),(2,.c (.int .i64 who))],hpL hp0 ν [diE x.2.1,.box [.c (.I a.own),.c (.R a.nxt)],.arr 2 .yes (.I x.2.2)])) (fun (x : Nat × Dc × List Int)=>(x.1 ≤ a.own.length ∧ x.2.2.length = x.1) ∧ ge a who (a.own.length - x.1) x.1 x.2.1 x.2.2 = G) (fun (x : Nat × Dc × List Int)=>a.own.length - x.1) ⟨(0,d,[]),?_,bu hX hN [] ?_ ?_⟩ ?_;(repeat' (first|(with_reducible first|exact clZ|refine bn ?_ ?_|refine bo ?_ ?_|rfl|refine suZ ?_)|refine bp rfl ?_ ?_|exact aR hN _ rfl rfl rfl|exact aS hN _ rfl rfl rfl|exact ay hN _ rfl rfl rfl (Or.inr rfl)|(refine aT hN _ rfl rfl (by first|exact Or.inr rfl|exact Or.inl rfl) ?_;first|exact aU _|exact aV _)|refine az hN rfl ?_|refine aA hN rfl rfl ?_|exact ax hN _ rfl rfl|exact au hN rfl rfl rfl rfl|(with_reducible first|refine stZ ?_|refine aQ ?_)));(try (any_goals (first|(with_reducible rfl)|(refine ah ?_;omega)))))
 · exact ⟨⟨Nat.zero_le _,rfl⟩,hG.symm⟩
 rintro ⟨v,dd,o⟩ ⟨⟨hv,ho⟩,hGo⟩
 simp only at hv ho hGo
 dsimp only
 by_cases hvl : v < a.own.length
 · have hcv:=ha.vert v hvl
   have hb:=dd.bnd (n:=(gr a.nxt v).length) (by omega)
   rw [show a.own.length - v = (a.own.length - (v + 1)) + 1 by omega,ge] at hGo
   by_cases e : gi a.own v = who
   · rw [if_pos e] at hGo
     (repeat' (first|(with_reducible first|(apply hK;clear hK K)|refine stZ ?_|refine aD rfl ?_|((first|apply ae|apply af);clear ae X af Y))|(with_reducible refine aG ?_;first|refine aE rfl ?_|refine aF rfl ?_)|(with_reducible refine ba ?_;refine bd hN ?_)|((with_reducible first|((first|refine aJ ?_|refine bf ?_|refine aK ?_|refine bg ?_);intro K hK)|(refine am ?_;intro X Y ae af)|refine ao ?_);simp (disch:=first|decide|omega|(simp only [List.length_cons,List.length_nil];omega)) only [go_sem,↓aj hN,ak hN,reduceIte,reduceCtorEq,Nat.reduceAdd,Nat.reduceLT,Nat.reduceLeDiff,Nat.reduceEqDiff,Nat.reduceSub])|(with_reducible refine And.intro (fun h=>?_) (fun h=>?_) <;> try (exfalso;omega))|(with_reducible refine aI ap hN ?_)|(with_reducible refine aC ap hN ?_)|(refine dm (iK dd (gr a.nxt v).length (by omega)) hN 0 rfl rfl rfl rfl rfl ?_ ?_ ?_ ?_;(focus (simp [bv,AV.names];done));(focus (intro ν' hν;(repeat' (first|exact ArgMs.nil|refine ArgMs.cons ?_ ?_|exact gR hν|exact gS hν|exact jx _|exact i5 (by first|exact bB _|exact bz _|exact bA rfl rfl rfl) rfl|(refine gT hN rfl ?_ (by decide);first|exact aU _|exact aV _)|refine d8 ?_));done));(focus (first|exact Or.inr ⟨rfl,rfl,fun _=>rfl⟩|exact Or.inl (by simp [bv,AV.names]))))|(with_reducible first|exact bt|refine bc ?_ ?_|exact cm _|refine bF ?_|exact bB _|exact bT _ _|refine bS ?_|exact bz _)|exact bG hN rfl rfl|(refine bR hN rfl ?_;first|exact aU _|exact aV _)|exact bA rfl rfl rfl|(simp only [aZ,List.map_nil])|(with_reducible refine aY ?_)|(simp (disch:=first|decide|omega|(simp only [List.length_cons,List.length_nil];omega)) only [aZ,List.map_cons,List.map_nil,ak hN,List.set_cons_zero,List.set_cons_succ])|(with_reducible refine And.intro ?_ ?_)|(refine ah ?_;omega)|(exact aH hN (by decide))))
     all_goals first|(exact absurd e (dl (by assumption)))|skip
     (refine ⟨(v + 1,dd.nxt,o ++ [gi (gr a.nxt v) (dd.val (gr a.nxt v).length).toNat]),⟨?_,?_⟩,bu hX hN [(2,4)] ?_ ?_⟩;(try any_goals dsimp only);(repeat' (first|(with_reducible first|exact clZ|refine bn ?_ ?_|refine bo ?_ ?_|rfl|refine suZ ?_)|refine bp rfl ?_ ?_|exact aR hN _ rfl rfl rfl|exact aS hN _ rfl rfl rfl|exact ay hN _ rfl rfl rfl (Or.inr rfl)|(refine aT hN _ rfl rfl (by first|exact Or.inr rfl|exact Or.inl rfl) ?_;first|exact aU _|exact aV _)|refine az hN rfl ?_|refine aA hN rfl rfl ?_|exact ax hN _ rfl rfl|exact au hN rfl rfl rfl rfl|(with_reducible first|refine stZ ?_|refine aQ ?_)));(try (any_goals (first|(with_reducible rfl)|(refine ah ?_;omega)))))
     exact ⟨⟨by omega,by simp [ho]⟩,hGo⟩
   · rw [if_neg e] at hGo
     (repeat' (first|(with_reducible first|(apply hK;clear hK K)|refine stZ ?_|refine aD rfl ?_|((first|apply ae|apply af);clear ae X af Y))|(with_reducible refine aG ?_;first|refine aE rfl ?_|refine aF rfl ?_)|(with_reducible refine ba ?_;refine bd hN ?_)|((with_reducible first|((first|refine aJ ?_|refine bf ?_|refine aK ?_|refine bg ?_);intro K hK)|(refine am ?_;intro X Y ae af)|refine ao ?_);simp (disch:=first|decide|omega|(simp only [List.length_cons,List.length_nil];omega)) only [go_sem,↓aj hN,ak hN,reduceIte,reduceCtorEq,Nat.reduceAdd,Nat.reduceLT,Nat.reduceLeDiff,Nat.reduceEqDiff,Nat.reduceSub])|(with_reducible refine And.intro (fun h=>?_) (fun h=>?_) <;> try (exfalso;omega))|(with_reducible refine aI ap hN ?_)|(with_reducible refine aC ap hN ?_)|(with_reducible refine And.intro ?_ ?_)|(refine ah ?_;omega)|(exact aH hN (by decide))))
     all_goals first|(exact absurd (by assumption) e)|skip
     (refine ⟨(v + 1,dd,o ++ [-1]),⟨?_,?_⟩,bu hX hN [(2,4)] ?_ ?_⟩;(try any_goals dsimp only);(repeat' (first|(with_reducible first|exact clZ|refine bn ?_ ?_|refine bo ?_ ?_|rfl|refine suZ ?_)|refine bp rfl ?_ ?_|exact aR hN _ rfl rfl rfl|exact aS hN _ rfl rfl rfl|exact ay hN _ rfl rfl rfl (Or.inr rfl)|(refine aT hN _ rfl rfl (by first|exact Or.inr rfl|exact Or.inl rfl) ?_;first|exact aU _|exact aV _)|refine az hN rfl ?_|refine aA hN rfl rfl ?_|exact ax hN _ rfl rfl|exact au hN rfl rfl rfl rfl|(with_reducible first|refine stZ ?_|refine aQ ?_)));(try (any_goals (first|(with_reducible rfl)|(refine ah ?_;omega)))))
     exact ⟨⟨by omega,by simp [ho]⟩,hGo⟩
 · rw [show a.own.length - v = 0 by omega,ge] at hGo
   subst hGo
   (repeat' (first|(with_reducible first|(apply hK;clear hK K)|refine stZ ?_|refine aD rfl ?_|((first|apply ae|apply af);clear ae X af Y))|(with_reducible refine aG ?_;first|refine aE rfl ?_|refine aF rfl ?_)|(with_reducible refine ba ?_;refine bd hN ?_)|((with_reducible first|((first|refine aJ ?_|refine bf ?_|refine aK ?_|refine bg ?_);intro K hK)|(refine am ?_;intro X Y ae af)|refine ao ?_);simp (disch:=first|decide|omega|(simp only [List.length_cons,List.length_nil];omega)) only [go_sem,↓aj hN,ak hN,reduceIte,reduceCtorEq,Nat.reduceAdd,Nat.reduceLT,Nat.reduceLeDiff,Nat.reduceEqDiff,Nat.reduceSub])|(with_reducible refine And.intro (fun h=>?_) (fun h=>?_) <;> try (exfalso;omega))|(with_reducible refine aI ap hN ?_)|(with_reducible refine aC ap hN ?_)|(with_reducible refine And.intro ?_ ?_)|(refine ah ?_;omega)|(exact aH hN (by decide))))
   (refine ⟨.inr rfl,_,(by first|exact co rfl rfl|exact ce hN rfl rfl rfl rfl|exact bZ hN rfl rfl rfl rfl rfl|(simp (disch:=first|decide|omega|(simp only [List.length_cons,List.length_nil];omega)) only [bI,bJ,bK,bM,go_sem,beq_self_eq_true,↓aB,↓aj hN,ak hN,reduceIte,reduceCtorEq,Nat.reduceAdd,Nat.reduceLT,Nat.reduceLeDiff,Nat.reduceEqDiff,Nat.reduceSub];rfl)|rfl),[(1,2)],_,rfl,?_,rfl,?_⟩;(all_goals try simp only [List.drop,List.take,List.cons_append,List.nil_append,nmL,List.length_cons,List.length_nil,Nat.reduceAdd,List.getD_cons_zero]);(repeat' (first|(with_reducible first|exact clZ|refine bn ?_ ?_|refine bo ?_ ?_|rfl|refine suZ ?_)|refine bp rfl ?_ ?_|exact aR hN _ rfl rfl rfl|exact aS hN _ rfl rfl rfl|exact ay hN _ rfl rfl rfl (Or.inr rfl)|(refine aT hN _ rfl rfl (by first|exact Or.inr rfl|exact Or.inl rfl) ?_;first|exact aU _|exact aV _)|refine az hN rfl ?_|refine aA hN rfl rfl ?_|exact ax hN _ rfl rfl|exact au hN rfl rfl rfl rfl|(with_reducible first|refine stZ ?_|refine aQ ?_))))
end Go.Proofs.YtiadchinhofieaaGreat
