/-
  EdgeNeeded on both sides, in the old words.
-/
import Derived.Test.YtiadchinhofieaaZeFc
import Derived.Test.YtiadchinhofieaaZeCb
import Derived.Test.YtiadchinhofieaaZeXA
import Derived.Test.YtiadchinhofieaaZeX7
import Derived.Test.YtiadchinhofieaaZeR9
import Derived.Test.YtiadchinhofieaaZeX4
import Derived.Test.YtiadchinhofieaaZeLaw
namespace Go.Proofs.Ytiadchinhofieaa
set_option linter.unusedVariables false
set_option linter.unusedSimpArgs false
open Go.RowKit
theorem nE {P : Program} {f : FuncId} {args : List AV} {fn : Func} (hf : P.funcs[f]? = some fn) (hb : fn.body.isNone = false) (hname : (fn.name == "runtime.NumGoroutine") = false) {x : AV}
  (h : ∀ φ hp w (vs : List Value),AVs φ hp w args vs → Calls P f vs.toArray w fun e w'=>∃ v,e = .returned v ∧ (∀ φ' hp',(∀ b,w.heap.size ≤ b → ¬ Own φ' hp' b) → AVC φ' hp' w' x v) ∧ Below w.heap.size w w') : aq P f args [] fun _=>x:=by
 refine ⟨⟨fn,hf,hb,hname⟩,fun φ0 hp0 w vs hX H hl hv=>(h φ0 hp0 w vs (.of hl hv)).mono fun e w' ⟨v,he,hr,hbw⟩=>⟨v,he,?_⟩⟩
 intro ν hl hn hf
 have : ν = []:=List.eq_nil_of_length_eq_zero hl
 subst this
 have hE : Evo φ0 hp0 w φ0 (bU (aV hp0 []) [] []) w':=⟨fun ν e he=>⟨e,he,.inr ⟨rfl,rfl⟩⟩,fun b hb ho=>⟨hbw.block b hb,ho⟩,hbw.size,fun b hb _=>hbw.block b hb⟩
 refine ⟨φ0,⟨hbw,hbw.size,H.fin,fun ν e he=>?_,H.sep,fun ν b hm hb'=>H.lo ν b hm hb'⟩,hE,hr _ _ fun b hb ho=>?_⟩
 · exact (H.ent ν e he).evo hE fun hk b hb'=>hbw.block b (H.lt ⟨e,he,hk⟩ hb')
 · have:=H.own_lt ho;omega
theorem q6 {O : Nat → Prop} {lo hi : Nat} {w : World} {v : Value} {xss : List (List Int)} {vs : List Value} (h : bm lo hi w v xss vs) (hO : ∀ b,lo ≤ b → ¬ O b) : Rd O w (.R xss) v :=
 kj (.slice none 0 0) h.2.1 hO rfl (by simp [h.1]) rfl rfl fun i hi=>fU (h.2.2.1 i (by rw [← h.1];exact hi)) hO
theorem pC {φ : Nat → Loc} {hp : Hp} {lo hi : Nat} {w : World} {v : Value} {g : Pa} (h : dl lo hi w v g) (hO : ∀ b,lo ≤ b → ¬ Own φ hp b) : AVC φ hp w (paA g) v:=by
 obtain ⟨vo,vn,vp,vs,rfl,h1,h2,h3,_⟩:=h
 exact ki (vs:=[vo,vn,vp]) (.cons (.c (fU h1 hO)) (.cons (.c (q6 h2 hO)) (.cons (.c (fU h3 hO)) .nil)))
theorem pD {φ : Nat → Loc} {hp : Hp} {w : World} {a b : AV} {u v : Value} (h : AVC φ hp w a u) (k : AVC φ hp w b v) : AVC φ hp w (.tup [a,b]) (.tuple #[u,v]) :=
 have h' : AVs φ hp w [a,b] [u,v]:=.cons h (.cons k .nil)
 .tup (vs:=[u,v]) h'.at.1 h'.at.2
theorem uq {φ : Nat → Loc} {hp : Hp} {w : World} {g : Pa} {a b : Int} {vs : List Value} (h : AVs φ hp w [paA g,.c (.int .i64 a),.c (.int .i64 b)] vs) : ∃ x,vs = [x,.int .i64 a,.int .i64 b] ∧ IsP w x g:=by
 match vs,h with
 | [x, y, z], .cons h1 (.cons h2 (.cons h3 .nil)) =>
   have e1 : y = .int .i64 a:=by
    have:=cY h2
    cases this with
    | sl hv' => simp [C.view] at hv'
    | _ => rfl
   have e2 : z = .int .i64 b:=by
    have:=cY h3
    cases this with
    | sl hv' => simp [C.view] at hv'
    | _ => rfl
   exact ⟨x,by rw [e1,e2],oL h1⟩
end Go.Proofs.Ytiadchinhofieaa
namespace Go.Proofs.Ytiadchinhofieaa
set_option linter.unusedVariables false
set_option linter.unusedSimpArgs false
open Go.RowKit
attribute [local irreducible] aq ce Aw Le
theorem mc {xs : List Int} {m : Int} (hs : cL xs m) {u : Int} {k : Nat} (hk : k < xs.length) (e : gi xs k = u) : xs.eraseIdx k = d7 (fun x=>¬ x = u) xs xs.length:=by
 have key : ∀ n,n ≤ xs.length → d7 (fun x=>¬ x = u) xs n = (xs.take n).eraseIdx k:=by
  intro n
  induction n with
  | zero => intro _; simp [d7]
  | succ n ih =>
    intro hn
    have ht : xs.take (n + 1) = xs.take n ++ [gi xs n]:=by rw [List.take_succ_eq_append_getElem (by omega),cT (by omega)]
    have hl : (xs.take n).length = n:=by rw [List.length_take];omega
    by_cases c : n = k
    · subst c
      rw [eK (fun h=>h e),ih (by omega),ht,List.eraseIdx_append_of_length_le (by omega),hl,Nat.sub_self,List.eraseIdx_of_length_le (by omega)]
      simp
    · have hne : ¬ gi xs n = u:=by
       intro h
       rcases Nat.lt_or_ge n k with h'|h'
       · have:=l8 (iv hs) (i:=n) (j:=k) hk h';omega
       · have:=l8 (iv hs) (i:=k) (j:=n) (by omega) (by omega);omega
      rw [dC hne,ih (by omega),ht]
      rcases Nat.lt_or_ge k n with h'|h'
      · rw [List.eraseIdx_append_of_lt_length (by omega)]
      · rw [List.eraseIdx_of_length_le (by omega),List.eraseIdx_of_length_le (by simp;omega)]
 rw [key _ (Nat.le_refl _),List.take_length]
theorem nF (g : Pa) (hg : PaOk g) (v : Nat) (hv : v < g.prio.length) (u : Int) (hu : u ∈ gr g.ar.nxt v) (h2 : 2 ≤ (gr g.ar.nxt v).length) : aq Try.prog 67 [paA g,.c (.int .i64 v),.c (.int .i64 u)] [] (fun _=>.tup [paA (fB g v u),.c (.bool true)]):=by
 rcases gJ (gr g.ar.nxt v) u with ⟨_,h⟩|⟨k,hk,ek,_,ei⟩
 · exact absurd hu h
 have hl:=hg.len
 have hln:=hg.ar.len
 have hfe:=mc (hg.ar.vert v (by omega)).2.2.2.2 hk ek
 refine nE Try.func67 rfl rfl fun φ hp w vs h=>?_
 obtain ⟨x,rfl,hP⟩:=uq h
 refine (kE x g w hP hg v hv u k hk ei h2).mono ?_
 rintro e w' ⟨s1,n1,c1,s2,n2,c2,s3,n3,c3,rfl,ho,hb⟩
 refine ⟨_,rfl,fun φ' hp' hO=>pD ?_ (.c (.bool _)),hb⟩
 rw [hfe] at ho
 exact pC ho hO
theorem md (g : Pa) (hg : PaOk g) (v : Nat) (hv : v < g.prio.length) (u : Int) (h : ¬ u ∈ gr g.ar.nxt v ∨ (gr g.ar.nxt v).length = 1) : aq Try.prog 67 [paA g,.c (.int .i64 v),.c (.int .i64 u)] [] (fun _=>.tup [.agg [.c .nul,.c .nul,.c .nul],.c (.bool false)]):=by
 have hl:=hg.len
 have hln:=hg.ar.len
 have c1:=qY (gr g.ar.nxt v) u
 rcases gJ (gr g.ar.nxt v) u with ⟨ei,_⟩|⟨k,hk,ek,_,ei⟩
 · rw [ei] at c1
   (refine be aF Try.func67 rfl rfl (by kernel_rfl) fun hp0 ν hX hN=>?_;simp only [bX,Nat.reduceAdd])
   (repeat' (first|(with_reducible first|(apply hK;clear hK K)|refine stZ ?_|refine aM rfl ?_|((first|apply ae|apply af);clear ae X af Y))|(with_reducible refine aP ?_;first|refine aN rfl ?_|refine aO rfl ?_)|(with_reducible refine bg ?_;first|refine aI rfl rfl rfl rfl ?_|refine bf rfl rfl rfl ?_|refine bp rfl rfl rfl rfl ?_)|(with_reducible refine ca ?_;first|refine cg rfl rfl rfl rfl ?_|refine cH rfl rfl rfl ?_|refine di rfl rfl rfl rfl ?_|refine cw hN ?_)|((first|(with_reducible first|((first|refine aS ?_|refine cx ?_|refine aT ?_|refine cy ?_);intro K hK)|(refine ay ?_;intro X Y ae af)|refine az ?_)|(with_reducible refine bg ?_;refine aJ rfl rfl fun X Y ae af=>?_)|(with_reducible refine ca ?_;refine ch rfl rfl fun X Y ae af=>?_));simp (disch:=first|decide|omega|(simp only [List.length_cons,List.length_nil];omega)) only [go_sem,↓ak hN,am hN,reduceIte,reduceCtorEq,Nat.reduceAdd,Nat.reduceLT,Nat.reduceLeDiff,Nat.reduceEqDiff,Nat.reduceSub])|(with_reducible refine And.intro (fun h=>?_) (fun h=>?_) <;> try (exfalso;omega))|(with_reducible refine aR aF hN ?_)|(with_reducible refine bF aF hN ?_)|(refine bo hN (c1) ?_)|(simp only [aV,List.map_nil])|(with_reducible refine bn ?_)|(with_reducible refine And.intro ?_ ?_)|(refine ah ?_;omega)|(exact aQ hN (by decide))))
   (refine e9 hN [] (by decide) (.inr rfl) (by first|exact cM rfl rfl|exact cA hN rfl rfl rfl rfl|exact cj hN rfl rfl rfl rfl rfl|(simp (disch:=first|decide|omega|(simp only [List.length_cons,List.length_nil];omega)) only [bI,bJ,bL,bN,go_sem,beq_self_eq_true,↓au,↓ak hN,am hN,reduceIte,reduceCtorEq,Nat.reduceAdd,Nat.reduceLT,Nat.reduceLeDiff,Nat.reduceEqDiff,Nat.reduceSub];rfl)|rfl) ?_ fun νs hνs=>?_;(repeat' (first|exact Gone.nil|(refine Gone.cons rfl rfl ?_ ?_)|(with_reducible refine dL ?_)|(with_reducible refine dK ?_)|(with_reducible refine SVs.cons ?_ ?_)|(with_reducible exact SVs.nil)|(simp only [List.drop,List.take])|(simp (disch:=first|decide|omega) only [↓au,reduceIte,reduceCtorEq,Nat.reduceEqDiff])|(with_reducible exact ib _)|(with_reducible exact dI _)|(exact dJ rfl rfl rfl)|(exact eg 0 (by simp) rfl rfl)|(refine e8 hN rfl (dM hN (by decide)) ?_)|(with_reducible refine eZ ?_)|(with_reducible rfl)|(with_reducible refine ic ?_)|(with_reducible refine ig ?_)|(with_reducible refine ii ?_)|(with_reducible refine gP ?_)|(with_reducible refine gc ?_)|(refine ah ?_;omega))))
   all_goals rfl
 · have h1 : (gr g.ar.nxt v).length = 1:=h.elim (fun h=>absurd (ek ▸ cG hk) h) id
   rw [ei] at c1
   (refine be aF Try.func67 rfl rfl (by kernel_rfl) fun hp0 ν hX hN=>?_;simp only [bX,Nat.reduceAdd])
   (repeat' (first|(with_reducible first|(apply hK;clear hK K)|refine stZ ?_|refine aM rfl ?_|((first|apply ae|apply af);clear ae X af Y))|(with_reducible refine aP ?_;first|refine aN rfl ?_|refine aO rfl ?_)|(with_reducible refine bg ?_;first|refine aI rfl rfl rfl rfl ?_|refine bf rfl rfl rfl ?_|refine bp rfl rfl rfl rfl ?_)|(with_reducible refine ca ?_;first|refine cg rfl rfl rfl rfl ?_|refine cH rfl rfl rfl ?_|refine di rfl rfl rfl rfl ?_|refine cw hN ?_)|((first|(with_reducible first|((first|refine aS ?_|refine cx ?_|refine aT ?_|refine cy ?_);intro K hK)|(refine ay ?_;intro X Y ae af)|refine az ?_)|(with_reducible refine bg ?_;refine aJ rfl rfl fun X Y ae af=>?_)|(with_reducible refine ca ?_;refine ch rfl rfl fun X Y ae af=>?_));simp (disch:=first|decide|omega|(simp only [List.length_cons,List.length_nil];omega)) only [go_sem,↓ak hN,am hN,reduceIte,reduceCtorEq,Nat.reduceAdd,Nat.reduceLT,Nat.reduceLeDiff,Nat.reduceEqDiff,Nat.reduceSub])|(with_reducible refine And.intro (fun h=>?_) (fun h=>?_) <;> try (exfalso;omega))|(with_reducible refine aR aF hN ?_)|(with_reducible refine bF aF hN ?_)|(refine bo hN (c1) ?_)|(simp only [aV,List.map_nil])|(with_reducible refine bn ?_)|(with_reducible refine And.intro ?_ ?_)|(refine ah ?_;omega)|(exact aQ hN (by decide))))
   all_goals (rw [if_neg (show ¬ (k : Int) < 0 by omega)];(repeat' (first|(with_reducible first|(apply hK;clear hK K)|refine stZ ?_|refine aM rfl ?_|((first|apply ae|apply af);clear ae X af Y))|(with_reducible refine aP ?_;first|refine aN rfl ?_|refine aO rfl ?_)|(with_reducible refine bg ?_;first|refine aI rfl rfl rfl rfl ?_|refine bf rfl rfl rfl ?_|refine bp rfl rfl rfl rfl ?_)|(with_reducible refine ca ?_;first|refine cg rfl rfl rfl rfl ?_|refine cH rfl rfl rfl ?_|refine di rfl rfl rfl rfl ?_|refine cw hN ?_)|((first|(with_reducible first|((first|refine aS ?_|refine cx ?_|refine aT ?_|refine cy ?_);intro K hK)|(refine ay ?_;intro X Y ae af)|refine az ?_)|(with_reducible refine bg ?_;refine aJ rfl rfl fun X Y ae af=>?_)|(with_reducible refine ca ?_;refine ch rfl rfl fun X Y ae af=>?_));simp (disch:=first|decide|omega|(simp only [List.length_cons,List.length_nil];omega)) only [go_sem,↓ak hN,am hN,reduceIte,reduceCtorEq,Nat.reduceAdd,Nat.reduceLT,Nat.reduceLeDiff,Nat.reduceEqDiff,Nat.reduceSub])|(with_reducible refine And.intro (fun h=>?_) (fun h=>?_) <;> try (exfalso;omega))|(with_reducible refine aR aF hN ?_)|(with_reducible refine bF aF hN ?_)|(with_reducible refine And.intro ?_ ?_)|(refine ah ?_;omega)|(exact aQ hN (by decide)))))
   all_goals first | (exfalso; have hq : (((gr g.ar.nxt v).length : Int) == 1) = false := by assumption
                      rw [h1] at hq;exact absurd hq (by decide))|skip
   (refine e9 hN [] (by decide) (.inr rfl) (by first|exact cM rfl rfl|exact cA hN rfl rfl rfl rfl|exact cj hN rfl rfl rfl rfl rfl|(simp (disch:=first|decide|omega|(simp only [List.length_cons,List.length_nil];omega)) only [bI,bJ,bL,bN,go_sem,beq_self_eq_true,↓au,↓ak hN,am hN,reduceIte,reduceCtorEq,Nat.reduceAdd,Nat.reduceLT,Nat.reduceLeDiff,Nat.reduceEqDiff,Nat.reduceSub];rfl)|rfl) ?_ fun νs hνs=>?_;(repeat' (first|exact Gone.nil|(refine Gone.cons rfl rfl ?_ ?_)|(with_reducible refine dL ?_)|(with_reducible refine dK ?_)|(with_reducible refine SVs.cons ?_ ?_)|(with_reducible exact SVs.nil)|(simp only [List.drop,List.take])|(simp (disch:=first|decide|omega) only [↓au,reduceIte,reduceCtorEq,Nat.reduceEqDiff])|(with_reducible exact ib _)|(with_reducible exact dI _)|(exact dJ rfl rfl rfl)|(exact eg 0 (by simp) rfl rfl)|(refine e8 hN rfl (dM hN (by decide)) ?_)|(with_reducible refine eZ ?_)|(with_reducible rfl)|(with_reducible refine ic ?_)|(with_reducible refine ig ?_)|(with_reducible refine ii ?_)|(with_reducible refine gP ?_)|(with_reducible refine gc ?_)|(refine ah ?_;omega))))
   all_goals rfl
end Go.Proofs.Ytiadchinhofieaa
namespace Go.Proofs.Ytiadchinhofieaa
set_option linter.unusedVariables false
set_option linter.unusedSimpArgs false
open Go.RowKit
attribute [local irreducible] aq ce Aw Le
theorem jf (g : Pa) (hg : PaOk g) (v : Nat) (hv : v < g.prio.length) (u : Int) (hu : u ∈ gr g.ar.nxt v) : aq Try.prog 64 [paA g,.c (.int .i64 v),.c (.int .i64 u)] [] (fun _=>.c (.bool (tf ((gr g.ar.nxt v).length = 1 ∨ du (fB g v u) ≠ du g)))):=by
 have hl:=hg.len
 have hln:=hg.ar.len
 have hr:=(hg.ar.vert v (by omega)).2.2.1
 by_cases h2 : (gr g.ar.nxt v).length = 1
 · have h4:=md g hg v hv u (.inr h2)
   rw [aH (.inl h2)]
   (refine be aF Try.func64 rfl rfl (by kernel_rfl) fun hp0 ν hX hN=>?_;simp only [bX,Nat.reduceAdd])
   (repeat' (first|(with_reducible first|(apply hK;clear hK K)|refine stZ ?_|refine aM rfl ?_|((first|apply ae|apply af);clear ae X af Y))|(with_reducible refine aP ?_;first|refine aN rfl ?_|refine aO rfl ?_)|(with_reducible refine bg ?_;first|refine aI rfl rfl rfl rfl ?_|refine bf rfl rfl rfl ?_|refine bp rfl rfl rfl rfl ?_)|(with_reducible refine ca ?_;first|refine cg rfl rfl rfl rfl ?_|refine cH rfl rfl rfl ?_|refine di rfl rfl rfl rfl ?_|refine cw hN ?_)|((first|(with_reducible first|((first|refine aS ?_|refine cx ?_|refine aT ?_|refine cy ?_);intro K hK)|(refine ay ?_;intro X Y ae af)|refine az ?_)|(with_reducible refine bg ?_;refine aJ rfl rfl fun X Y ae af=>?_)|(with_reducible refine ca ?_;refine ch rfl rfl fun X Y ae af=>?_));simp (disch:=first|decide|omega|(simp only [List.length_cons,List.length_nil];omega)) only [go_sem,↓ak hN,am hN,reduceIte,reduceCtorEq,Nat.reduceAdd,Nat.reduceLT,Nat.reduceLeDiff,Nat.reduceEqDiff,Nat.reduceSub])|(with_reducible refine And.intro (fun h=>?_) (fun h=>?_) <;> try (exfalso;omega))|(with_reducible refine aR aF hN ?_)|(with_reducible refine bF aF hN ?_)|(refine cS (h4) ?_ rfl rfl ?_;focus ((repeat' (first|(with_reducible first|exact a9|refine aK ?_ ?_|exact cF _|refine bB ?_|exact bD _|exact bQ _ _|refine bP ?_|exact bz _)|exact bC hN rfl rfl|(refine bO hN rfl ?_;first|exact ba _|exact bc _)|exact bA rfl rfl rfl));done))|(with_reducible first|exact a9|refine aK ?_ ?_|exact cF _|refine bB ?_|exact bD _|exact bQ _ _|refine bP ?_|exact bz _)|exact bC hN rfl rfl|(refine bO hN rfl ?_;first|exact ba _|exact bc _)|exact bA rfl rfl rfl|(simp only [aV,List.map_nil])|(with_reducible refine bn ?_)|(with_reducible refine And.intro ?_ ?_)|(refine ah ?_;omega)|(exact aQ hN (by decide))))
   (refine cf (.inr rfl) (by first|rfl|(simp (disch:=first|decide|omega|(simp only [List.length_cons,List.length_nil];omega)) only [bI,bJ,bL,bN,go_sem,beq_self_eq_true,↓au,↓ak hN,am hN,reduceIte,reduceCtorEq,Nat.reduceAdd,Nat.reduceLT,Nat.reduceLeDiff,Nat.reduceEqDiff,Nat.reduceSub];rfl)) ?_)
   all_goals rfl
 · have h4:=nF g hg v hv u hu (by omega)
   have hc:=py hg (u:=u) hv (by omega)
   have w1:=jK g hg
   have w2:=jK (fB g v u) hc
   have h5:=qW (du g) (du (fB g v u)) (mG hg)
   by_cases hw : du (fB g v u) = du g
   · rw [aH hw.symm] at h5
     rw [ap (fun h=>h.elim h2 fun h=>h hw)]
     (refine be aF Try.func64 rfl rfl (by kernel_rfl) fun hp0 ν hX hN=>?_;simp only [bX,Nat.reduceAdd])
     (repeat' (first|(with_reducible first|(apply hK;clear hK K)|refine stZ ?_|refine aM rfl ?_|((first|apply ae|apply af);clear ae X af Y))|(with_reducible refine aP ?_;first|refine aN rfl ?_|refine aO rfl ?_)|(with_reducible refine bg ?_;first|refine aI rfl rfl rfl rfl ?_|refine bf rfl rfl rfl ?_|refine bp rfl rfl rfl rfl ?_)|(with_reducible refine ca ?_;first|refine cg rfl rfl rfl rfl ?_|refine cH rfl rfl rfl ?_|refine di rfl rfl rfl rfl ?_|refine cw hN ?_)|((first|(with_reducible first|((first|refine aS ?_|refine cx ?_|refine aT ?_|refine cy ?_);intro K hK)|(refine ay ?_;intro X Y ae af)|refine az ?_)|(with_reducible refine bg ?_;refine aJ rfl rfl fun X Y ae af=>?_)|(with_reducible refine ca ?_;refine ch rfl rfl fun X Y ae af=>?_));simp (disch:=first|decide|omega|(simp only [List.length_cons,List.length_nil];omega)) only [go_sem,↓ak hN,am hN,reduceIte,reduceCtorEq,Nat.reduceAdd,Nat.reduceLT,Nat.reduceLeDiff,Nat.reduceEqDiff,Nat.reduceSub])|(with_reducible refine And.intro (fun h=>?_) (fun h=>?_) <;> try (exfalso;omega))|(with_reducible refine aR aF hN ?_)|(with_reducible refine bF aF hN ?_)|(refine cS (h4) ?_ rfl rfl ?_;focus ((repeat' (first|(with_reducible first|exact a9|refine aK ?_ ?_|exact cF _|refine bB ?_|exact bD _|exact bQ _ _|refine bP ?_|exact bz _)|exact bC hN rfl rfl|(refine bO hN rfl ?_;first|exact ba _|exact bc _)|exact bA rfl rfl rfl));done))|(first|refine bo hN (w1) ?_|refine bo hN (h5) ?_)|(refine bo hN (w2) ?_)|(with_reducible first|exact a9|refine aK ?_ ?_|exact cF _|refine bB ?_|exact bD _|exact bQ _ _|refine bP ?_|exact bz _)|exact bC hN rfl rfl|(refine bO hN rfl ?_;first|exact ba _|exact bc _)|exact bA rfl rfl rfl|(simp only [aV,List.map_nil])|(with_reducible refine bn ?_)|(with_reducible refine And.intro ?_ ?_)|(refine ah ?_;omega)|(exact aQ hN (by decide))))
     (refine cf (.inr rfl) (by first|rfl|(simp (disch:=first|decide|omega|(simp only [List.length_cons,List.length_nil];omega)) only [bI,bJ,bL,bN,go_sem,beq_self_eq_true,↓au,↓ak hN,am hN,reduceIte,reduceCtorEq,Nat.reduceAdd,Nat.reduceLT,Nat.reduceLeDiff,Nat.reduceEqDiff,Nat.reduceSub];rfl)) ?_)
     all_goals rfl
   · rw [ap (fun h=>hw h.symm)] at h5
     rw [aH (.inr hw)]
     (refine be aF Try.func64 rfl rfl (by kernel_rfl) fun hp0 ν hX hN=>?_;simp only [bX,Nat.reduceAdd])
     (repeat' (first|(with_reducible first|(apply hK;clear hK K)|refine stZ ?_|refine aM rfl ?_|((first|apply ae|apply af);clear ae X af Y))|(with_reducible refine aP ?_;first|refine aN rfl ?_|refine aO rfl ?_)|(with_reducible refine bg ?_;first|refine aI rfl rfl rfl rfl ?_|refine bf rfl rfl rfl ?_|refine bp rfl rfl rfl rfl ?_)|(with_reducible refine ca ?_;first|refine cg rfl rfl rfl rfl ?_|refine cH rfl rfl rfl ?_|refine di rfl rfl rfl rfl ?_|refine cw hN ?_)|((first|(with_reducible first|((first|refine aS ?_|refine cx ?_|refine aT ?_|refine cy ?_);intro K hK)|(refine ay ?_;intro X Y ae af)|refine az ?_)|(with_reducible refine bg ?_;refine aJ rfl rfl fun X Y ae af=>?_)|(with_reducible refine ca ?_;refine ch rfl rfl fun X Y ae af=>?_));simp (disch:=first|decide|omega|(simp only [List.length_cons,List.length_nil];omega)) only [go_sem,↓ak hN,am hN,reduceIte,reduceCtorEq,Nat.reduceAdd,Nat.reduceLT,Nat.reduceLeDiff,Nat.reduceEqDiff,Nat.reduceSub])|(with_reducible refine And.intro (fun h=>?_) (fun h=>?_) <;> try (exfalso;omega))|(with_reducible refine aR aF hN ?_)|(with_reducible refine bF aF hN ?_)|(refine cS (h4) ?_ rfl rfl ?_;focus ((repeat' (first|(with_reducible first|exact a9|refine aK ?_ ?_|exact cF _|refine bB ?_|exact bD _|exact bQ _ _|refine bP ?_|exact bz _)|exact bC hN rfl rfl|(refine bO hN rfl ?_;first|exact ba _|exact bc _)|exact bA rfl rfl rfl));done))|(first|refine bo hN (w1) ?_|refine bo hN (h5) ?_)|(refine bo hN (w2) ?_)|(with_reducible first|exact a9|refine aK ?_ ?_|exact cF _|refine bB ?_|exact bD _|exact bQ _ _|refine bP ?_|exact bz _)|exact bC hN rfl rfl|(refine bO hN rfl ?_;first|exact ba _|exact bc _)|exact bA rfl rfl rfl|(simp only [aV,List.map_nil])|(with_reducible refine bn ?_)|(with_reducible refine And.intro ?_ ?_)|(refine ah ?_;omega)|(exact aQ hN (by decide))))
     (refine cf (.inr rfl) (by first|rfl|(simp (disch:=first|decide|omega|(simp only [List.length_cons,List.length_nil];omega)) only [bI,bJ,bL,bN,go_sem,beq_self_eq_true,↓au,↓ak hN,am hN,reduceIte,reduceCtorEq,Nat.reduceAdd,Nat.reduceLT,Nat.reduceLeDiff,Nat.reduceEqDiff,Nat.reduceSub];rfl)) ?_)
     all_goals rfl
theorem jg (g : Pa) (v u : Int) : aq Try.prog 17 [paA g,.c (.int .i64 v),.c (.int .i64 u)] [] (fun _=>.c (.bool (tf (fC g v u)))):=by
 have h1:=oS g
 have h2:=qF g.ar v
 by_cases hg : PaOk g
 · rw [aH hg] at h1
   have hl:=hg.len
   have hln:=hg.ar.len
   have hle:=hg.ar.le
   by_cases hv : i9 g.ar.own.length v
   · rw [aH hv] at h2
     obtain ⟨n,rfl⟩:=Int.eq_ofNat_of_zero_le hv.1
     have hn : n < g.prio.length:=by have:=hv.2;omega
     have h3:=l7 (gr g.ar.nxt n) u
     by_cases hu : u ∈ gr g.ar.nxt n
     · rw [aH hu] at h3
       have h4:=jf g hg n hn u hu
       have e : fC g (n : Int) u ↔ ((gr g.ar.nxt n).length = 1 ∨ du (fB g n u) ≠ du g):=⟨fun h=>h.2.2.2.2,fun h=>⟨hg,by omega,by omega,hu,h⟩⟩
       rw [dj e]
       (refine be aF Try.func17 rfl rfl (by kernel_rfl) fun hp0 ν hX hN=>?_;simp only [bX,Nat.reduceAdd])
       (repeat' (first|(with_reducible first|(apply hK;clear hK K)|refine stZ ?_|refine aM rfl ?_|((first|apply ae|apply af);clear ae X af Y))|(with_reducible refine aP ?_;first|refine aN rfl ?_|refine aO rfl ?_)|(with_reducible refine bg ?_;first|refine aI rfl rfl rfl rfl ?_|refine bf rfl rfl rfl ?_|refine bp rfl rfl rfl rfl ?_)|((first|(with_reducible first|((first|refine aS ?_|refine aT ?_);intro K hK)|(refine ay ?_;intro X Y ae af)|refine az ?_)|(with_reducible refine bg ?_;refine aJ rfl rfl fun X Y ae af=>?_));simp (disch:=first|decide|omega|(simp only [List.length_cons,List.length_nil];omega)) only [go_sem,↓ak hN,am hN,reduceIte,reduceCtorEq,Nat.reduceAdd,Nat.reduceLT,Nat.reduceLeDiff,Nat.reduceEqDiff,Nat.reduceSub])|(with_reducible refine And.intro (fun h=>?_) (fun h=>?_) <;> try (exfalso;omega))|(with_reducible refine aR aF hN ?_)|(first|refine bo hN (h1) ?_|refine bo hN (h2) ?_|refine bo hN (h3) ?_|refine bo hN (h4) ?_)|(simp only [aV,List.map_nil])|(with_reducible refine bn ?_)|(with_reducible refine And.intro ?_ ?_)|(refine ah ?_;omega)|(exact aQ hN (by decide))))
       (refine cf (.inr rfl) (by first|rfl|(simp (disch:=first|decide|omega|(simp only [List.length_cons,List.length_nil];omega)) only [bI,bJ,bL,bN,go_sem,beq_self_eq_true,↓au,↓ak hN,am hN,reduceIte,reduceCtorEq,Nat.reduceAdd,Nat.reduceLT,Nat.reduceLeDiff,Nat.reduceEqDiff,Nat.reduceSub];rfl)) ?_)
       all_goals rfl
     · rw [ap hu] at h3
       rw [ap fun h : fC g (n : Int) u=>hu h.2.2.2.1]
       (refine be aF Try.func17 rfl rfl (by kernel_rfl) fun hp0 ν hX hN=>?_;simp only [bX,Nat.reduceAdd])
       (repeat' (first|(with_reducible first|(apply hK;clear hK K)|refine stZ ?_|refine aM rfl ?_|((first|apply ae|apply af);clear ae X af Y))|(with_reducible refine aP ?_;first|refine aN rfl ?_|refine aO rfl ?_)|(with_reducible refine bg ?_;first|refine aI rfl rfl rfl rfl ?_|refine bf rfl rfl rfl ?_|refine bp rfl rfl rfl rfl ?_)|((first|(with_reducible first|((first|refine aS ?_|refine aT ?_);intro K hK)|(refine ay ?_;intro X Y ae af)|refine az ?_)|(with_reducible refine bg ?_;refine aJ rfl rfl fun X Y ae af=>?_));simp (disch:=first|decide|omega|(simp only [List.length_cons,List.length_nil];omega)) only [go_sem,↓ak hN,am hN,reduceIte,reduceCtorEq,Nat.reduceAdd,Nat.reduceLT,Nat.reduceLeDiff,Nat.reduceEqDiff,Nat.reduceSub])|(with_reducible refine And.intro (fun h=>?_) (fun h=>?_) <;> try (exfalso;omega))|(with_reducible refine aR aF hN ?_)|(first|refine bo hN (h1) ?_|refine bo hN (h2) ?_|refine bo hN (h3) ?_)|(simp only [aV,List.map_nil])|(with_reducible refine bn ?_)|(with_reducible refine And.intro ?_ ?_)|(refine ah ?_;omega)|(exact aQ hN (by decide))))
       (refine cf (.inr rfl) (by first|rfl|(simp (disch:=first|decide|omega|(simp only [List.length_cons,List.length_nil];omega)) only [bI,bJ,bL,bN,go_sem,beq_self_eq_true,↓au,↓ak hN,am hN,reduceIte,reduceCtorEq,Nat.reduceAdd,Nat.reduceLT,Nat.reduceLeDiff,Nat.reduceEqDiff,Nat.reduceSub];rfl)) ?_)
       all_goals rfl
   · rw [ap hv] at h2
     rw [ap fun h : fC g v u=>hv ⟨h.2.1,by have:=h.2.2.1;omega⟩]
     (refine be aF Try.func17 rfl rfl (by kernel_rfl) fun hp0 ν hX hN=>?_;simp only [bX,Nat.reduceAdd])
     (repeat' (first|(with_reducible first|(apply hK;clear hK K)|refine stZ ?_|refine aM rfl ?_|((first|apply ae|apply af);clear ae X af Y))|(with_reducible refine aP ?_;first|refine aN rfl ?_|refine aO rfl ?_)|(with_reducible refine bg ?_;first|refine aI rfl rfl rfl rfl ?_|refine bf rfl rfl rfl ?_|refine bp rfl rfl rfl rfl ?_)|((first|(with_reducible first|((first|refine aS ?_|refine aT ?_);intro K hK)|(refine ay ?_;intro X Y ae af)|refine az ?_)|(with_reducible refine bg ?_;refine aJ rfl rfl fun X Y ae af=>?_));simp (disch:=first|decide|omega|(simp only [List.length_cons,List.length_nil];omega)) only [go_sem,↓ak hN,am hN,reduceIte,reduceCtorEq,Nat.reduceAdd,Nat.reduceLT,Nat.reduceLeDiff,Nat.reduceEqDiff,Nat.reduceSub])|(with_reducible refine And.intro (fun h=>?_) (fun h=>?_) <;> try (exfalso;omega))|(with_reducible refine aR aF hN ?_)|(first|refine bo hN (h1) ?_|refine bo hN (h2) ?_)|(simp only [aV,List.map_nil])|(with_reducible refine bn ?_)|(with_reducible refine And.intro ?_ ?_)|(refine ah ?_;omega)|(exact aQ hN (by decide))))
     (refine cf (.inr rfl) (by first|rfl|(simp (disch:=first|decide|omega|(simp only [List.length_cons,List.length_nil];omega)) only [bI,bJ,bL,bN,go_sem,beq_self_eq_true,↓au,↓ak hN,am hN,reduceIte,reduceCtorEq,Nat.reduceAdd,Nat.reduceLT,Nat.reduceLeDiff,Nat.reduceEqDiff,Nat.reduceSub];rfl)) ?_)
     all_goals rfl
 · rw [ap hg] at h1
   rw [ap fun h : fC g v u=>hg h.1]
   (refine be aF Try.func17 rfl rfl (by kernel_rfl) fun hp0 ν hX hN=>?_;simp only [bX,Nat.reduceAdd])
   (repeat' (first|(with_reducible first|(apply hK;clear hK K)|refine stZ ?_|refine aM rfl ?_|((first|apply ae|apply af);clear ae X af Y))|(with_reducible refine aP ?_;first|refine aN rfl ?_|refine aO rfl ?_)|(with_reducible refine bg ?_;first|refine aI rfl rfl rfl rfl ?_|refine bf rfl rfl rfl ?_|refine bp rfl rfl rfl rfl ?_)|((first|(with_reducible first|((first|refine aS ?_|refine aT ?_);intro K hK)|(refine ay ?_;intro X Y ae af)|refine az ?_)|(with_reducible refine bg ?_;refine aJ rfl rfl fun X Y ae af=>?_));simp (disch:=first|decide|omega|(simp only [List.length_cons,List.length_nil];omega)) only [go_sem,↓ak hN,am hN,reduceIte,reduceCtorEq,Nat.reduceAdd,Nat.reduceLT,Nat.reduceLeDiff,Nat.reduceEqDiff,Nat.reduceSub])|(with_reducible refine And.intro (fun h=>?_) (fun h=>?_) <;> try (exfalso;omega))|(with_reducible refine aR aF hN ?_)|(refine bo hN (h1) ?_)|(simp only [aV,List.map_nil])|(with_reducible refine bn ?_)|(with_reducible refine And.intro ?_ ?_)|(refine ah ?_;omega)|(exact aQ hN (by decide))))
   (refine cf (.inr rfl) (by first|rfl|(simp (disch:=first|decide|omega|(simp only [List.length_cons,List.length_nil];omega)) only [bI,bJ,bL,bN,go_sem,beq_self_eq_true,↓au,↓ak hN,am hN,reduceIte,reduceCtorEq,Nat.reduceAdd,Nat.reduceLT,Nat.reduceLeDiff,Nat.reduceEqDiff,Nat.reduceSub];rfl)) ?_)
   all_goals rfl
theorem nG (a : Ar) (x : Int) (hl : a.own.length ≤ 1048576) : aq Try.prog 78 [arA a,.c (.int .i64 x)] [] (fun _=>.c (.bool (tf (i9 a.own.length x)))):=by
 have c1:=oR x 0 ((a.own.length : Int) - 1)
 rw [dj (show (0 ≤ x ∧ x ≤ (a.own.length : Int) - 1) ↔ i9 a.own.length x from ⟨fun h=>⟨h.1,by omega⟩,fun h=>⟨h.1,by have:=h.2;omega⟩⟩)] at c1
 (refine be aF Try.func78 rfl rfl (by kernel_rfl) fun hp0 ν hX hN=>?_;simp only [bX,Nat.reduceAdd])
 (repeat' (first|(with_reducible first|(apply hK;clear hK K)|refine stZ ?_|refine aM rfl ?_|((first|apply ae|apply af);clear ae X af Y))|(with_reducible refine aP ?_;first|refine aN rfl ?_|refine aO rfl ?_)|((with_reducible first|((first|refine aS ?_|refine aT ?_);intro K hK)|(refine ay ?_;intro X Y ae af)|refine az ?_);simp (disch:=first|decide|omega|(simp only [List.length_cons,List.length_nil];omega)) only [go_sem,↓ak hN,am hN,reduceIte,reduceCtorEq,Nat.reduceAdd,Nat.reduceLT,Nat.reduceLeDiff,Nat.reduceEqDiff,Nat.reduceSub])|(with_reducible refine And.intro (fun h=>?_) (fun h=>?_) <;> try (exfalso;omega))|(with_reducible refine aR aF hN ?_)|(refine br c1 ?_ rfl (fun _=>rfl) ?_)|(with_reducible first|exact a9|refine aK ?_ ?_|exact cF _|refine bB ?_|exact bD _|exact bQ _ _|refine bP ?_|exact bz _)|exact bC hN rfl rfl|(refine bO hN rfl ?_;first|exact ba _|exact bc _)|exact bA rfl rfl rfl|(simp only [aV,List.map_nil])|(with_reducible refine bn ?_)|(with_reducible refine And.intro ?_ ?_)|(refine ah ?_;omega)|(exact aQ hN (by decide))))
 (refine cf (.inr rfl) (by first|rfl|(simp (disch:=first|decide|omega|(simp only [List.length_cons,List.length_nil];omega)) only [bI,bJ,bL,bN,go_sem,beq_self_eq_true,↓au,↓ak hN,am hN,reduceIte,reduceCtorEq,Nat.reduceAdd,Nat.reduceLT,Nat.reduceLeDiff,Nat.reduceEqDiff,Nat.reduceSub];rfl)) ?_)
 rfl
theorem nH (a : Ar) (ha : ArOk a) (v u : Int) (h : ¬ (i9 a.own.length v ∧ u ∈ gr a.nxt v.toNat)) : aq Try.prog 31 [arA a,.c (.int .i64 v),.c (.int .i64 u)] [] (fun _=>.c (.bool false)):=by
 have hln:=ha.len
 have hle:=ha.le
 have h1:=my a
 rw [aH ha] at h1
 have h2:=nG a v (by omega)
 by_cases hv : i9 a.own.length v
 · rw [aH hv] at h2
   obtain ⟨n,rfl⟩:=Int.eq_ofNat_of_zero_le hv.1
   have hn : n < a.own.length:=by have:=hv.2;omega
   have h3:=mJ (gr a.nxt n) u
   rw [ap fun hu=>h ⟨hv,by rw [Int.toNat_natCast];exact hu⟩] at h3
   (refine be aF Try.func31 rfl rfl (by kernel_rfl) fun hp0 ν hX hN=>?_;simp only [bX,Nat.reduceAdd])
   (repeat' (first|(with_reducible first|(apply hK;clear hK K)|refine stZ ?_|refine aM rfl ?_|((first|apply ae|apply af);clear ae X af Y))|(with_reducible refine aP ?_;first|refine aN rfl ?_|refine aO rfl ?_)|(with_reducible refine bg ?_;first|refine aI rfl rfl rfl rfl ?_|refine bf rfl rfl rfl ?_|refine bp rfl rfl rfl rfl ?_)|((first|(with_reducible first|((first|refine aS ?_|refine aT ?_);intro K hK)|(refine ay ?_;intro X Y ae af)|refine az ?_)|(with_reducible refine bg ?_;refine aJ rfl rfl fun X Y ae af=>?_));simp (disch:=first|decide|omega|(simp only [List.length_cons,List.length_nil];omega)) only [go_sem,↓ak hN,am hN,reduceIte,reduceCtorEq,Nat.reduceAdd,Nat.reduceLT,Nat.reduceLeDiff,Nat.reduceEqDiff,Nat.reduceSub])|(with_reducible refine And.intro (fun h=>?_) (fun h=>?_) <;> try (exfalso;omega))|(with_reducible refine aR aF hN ?_)|(first|refine bo hN (h1) ?_|refine bo hN (h2) ?_|refine bo hN (h3) ?_)|(simp only [aV,List.map_nil])|(with_reducible refine bn ?_)|(with_reducible refine And.intro ?_ ?_)|(refine ah ?_;omega)|(exact aQ hN (by decide))))
   (refine cf (.inr rfl) (by first|rfl|(simp (disch:=first|decide|omega|(simp only [List.length_cons,List.length_nil];omega)) only [bI,bJ,bL,bN,go_sem,beq_self_eq_true,↓au,↓ak hN,am hN,reduceIte,reduceCtorEq,Nat.reduceAdd,Nat.reduceLT,Nat.reduceLeDiff,Nat.reduceEqDiff,Nat.reduceSub];rfl)) ?_)
   all_goals rfl
 · rw [ap hv] at h2
   (refine be aF Try.func31 rfl rfl (by kernel_rfl) fun hp0 ν hX hN=>?_;simp only [bX,Nat.reduceAdd])
   (repeat' (first|(with_reducible first|(apply hK;clear hK K)|refine stZ ?_|refine aM rfl ?_|((first|apply ae|apply af);clear ae X af Y))|(with_reducible refine aP ?_;first|refine aN rfl ?_|refine aO rfl ?_)|(with_reducible refine bg ?_;first|refine aI rfl rfl rfl rfl ?_|refine bf rfl rfl rfl ?_|refine bp rfl rfl rfl rfl ?_)|((first|(with_reducible first|((first|refine aS ?_|refine aT ?_);intro K hK)|(refine ay ?_;intro X Y ae af)|refine az ?_)|(with_reducible refine bg ?_;refine aJ rfl rfl fun X Y ae af=>?_));simp (disch:=first|decide|omega|(simp only [List.length_cons,List.length_nil];omega)) only [go_sem,↓ak hN,am hN,reduceIte,reduceCtorEq,Nat.reduceAdd,Nat.reduceLT,Nat.reduceLeDiff,Nat.reduceEqDiff,Nat.reduceSub])|(with_reducible refine And.intro (fun h=>?_) (fun h=>?_) <;> try (exfalso;omega))|(with_reducible refine aR aF hN ?_)|(first|refine bo hN (h1) ?_|refine bo hN (h2) ?_)|(simp only [aV,List.map_nil])|(with_reducible refine bn ?_)|(with_reducible refine And.intro ?_ ?_)|(refine ah ?_;omega)|(exact aQ hN (by decide))))
   (refine cf (.inr rfl) (by first|rfl|(simp (disch:=first|decide|omega|(simp only [List.length_cons,List.length_nil];omega)) only [bI,bJ,bL,bN,go_sem,beq_self_eq_true,↓au,↓ak hN,am hN,reduceIte,reduceCtorEq,Nat.reduceAdd,Nat.reduceLT,Nat.reduceLeDiff,Nat.reduceEqDiff,Nat.reduceSub];rfl)) ?_)
   all_goals rfl
theorem jh (g : Pa) (v u : Int) : aq Try.prog 15 [paA g,.c (.int .i64 v),.c (.int .i64 u)] [] (fun _=>.c (.bool (tf (fC g v u)))):=by
 have h1:=fx g
 by_cases hg : PaOk g
 · rw [aH hg] at h1
   have hl:=hg.len
   have hln:=hg.ar.len
   by_cases hv : i9 g.ar.own.length v ∧ u ∈ gr g.ar.nxt v.toNat
   · obtain ⟨n,rfl⟩:=Int.eq_ofNat_of_zero_le hv.1.1
     have hn : n < g.prio.length:=by have:=hv.1.2;omega
     have hu : u ∈ gr g.ar.nxt n:=by have:=hv.2;rwa [Int.toNat_natCast] at this
     have e : fC g (n : Int) u ↔ ((gr g.ar.nxt n).length = 1 ∨ du (fB g n u) ≠ du g):=⟨fun h=>h.2.2.2.2,fun h=>⟨hg,by omega,by omega,hu,h⟩⟩
     rw [dj e]
     exact je g hg n hn u hu
   · rw [ap fun h : fC g v u=>hv ⟨⟨h.2.1,by have:=h.2.2.1;omega⟩,h.2.2.2.1⟩]
     have h3:=nH g.ar hg.ar v u hv
     (refine be aF Try.func15 rfl rfl (by kernel_rfl) fun hp0 ν hX hN=>?_;simp only [bX,Nat.reduceAdd])
     (repeat' (first|(with_reducible first|(apply hK;clear hK K)|refine stZ ?_|refine aM rfl ?_|((first|apply ae|apply af);clear ae X af Y))|(with_reducible refine aP ?_;first|refine aN rfl ?_|refine aO rfl ?_)|(with_reducible refine bg ?_;first|refine aI rfl rfl rfl rfl ?_|refine bf rfl rfl rfl ?_|refine bp rfl rfl rfl rfl ?_)|((first|(with_reducible first|((first|refine aS ?_|refine aT ?_);intro K hK)|(refine ay ?_;intro X Y ae af)|refine az ?_)|(with_reducible refine bg ?_;refine aJ rfl rfl fun X Y ae af=>?_));simp (disch:=first|decide|omega|(simp only [List.length_cons,List.length_nil];omega)) only [go_sem,↓ak hN,am hN,reduceIte,reduceCtorEq,Nat.reduceAdd,Nat.reduceLT,Nat.reduceLeDiff,Nat.reduceEqDiff,Nat.reduceSub])|(with_reducible refine And.intro (fun h=>?_) (fun h=>?_) <;> try (exfalso;omega))|(with_reducible refine aR aF hN ?_)|(first|refine bo hN (h1) ?_|refine bo hN (h3) ?_)|(simp only [aV,List.map_nil])|(with_reducible refine bn ?_)|(with_reducible refine And.intro ?_ ?_)|(refine ah ?_;omega)|(exact aQ hN (by decide))))
     (refine cf (.inr rfl) (by first|rfl|(simp (disch:=first|decide|omega|(simp only [List.length_cons,List.length_nil];omega)) only [bI,bJ,bL,bN,go_sem,beq_self_eq_true,↓au,↓ak hN,am hN,reduceIte,reduceCtorEq,Nat.reduceAdd,Nat.reduceLT,Nat.reduceLeDiff,Nat.reduceEqDiff,Nat.reduceSub];rfl)) ?_)
     all_goals rfl
 · rw [ap hg] at h1
   rw [ap fun h : fC g v u=>hg h.1]
   (refine be aF Try.func15 rfl rfl (by kernel_rfl) fun hp0 ν hX hN=>?_;simp only [bX,Nat.reduceAdd])
   (repeat' (first|(with_reducible first|(apply hK;clear hK K)|refine stZ ?_|refine aM rfl ?_|((first|apply ae|apply af);clear ae X af Y))|(with_reducible refine aP ?_;first|refine aN rfl ?_|refine aO rfl ?_)|(with_reducible refine bg ?_;first|refine aI rfl rfl rfl rfl ?_|refine bf rfl rfl rfl ?_|refine bp rfl rfl rfl rfl ?_)|((first|(with_reducible first|((first|refine aS ?_|refine aT ?_);intro K hK)|(refine ay ?_;intro X Y ae af)|refine az ?_)|(with_reducible refine bg ?_;refine aJ rfl rfl fun X Y ae af=>?_));simp (disch:=first|decide|omega|(simp only [List.length_cons,List.length_nil];omega)) only [go_sem,↓ak hN,am hN,reduceIte,reduceCtorEq,Nat.reduceAdd,Nat.reduceLT,Nat.reduceLeDiff,Nat.reduceEqDiff,Nat.reduceSub])|(with_reducible refine And.intro (fun h=>?_) (fun h=>?_) <;> try (exfalso;omega))|(with_reducible refine aR aF hN ?_)|(refine bo hN (h1) ?_)|(simp only [aV,List.map_nil])|(with_reducible refine bn ?_)|(with_reducible refine And.intro ?_ ?_)|(refine ah ?_;omega)|(exact aQ hN (by decide))))
   (refine cf (.inr rfl) (by first|rfl|(simp (disch:=first|decide|omega|(simp only [List.length_cons,List.length_nil];omega)) only [bI,bJ,bL,bN,go_sem,beq_self_eq_true,↓au,↓ak hN,am hN,reduceIte,reduceCtorEq,Nat.reduceAdd,Nat.reduceLT,Nat.reduceLeDiff,Nat.reduceEqDiff,Nat.reduceSub];rfl)) ?_)
   all_goals rfl
end Go.Proofs.Ytiadchinhofieaa
namespace Go.Proofs.Ytiadchinhofieaa
set_option linter.unusedVariables false
set_option linter.unusedSimpArgs false
open Go.RowKit
theorem ks (x : Value) (g : Pa) (v u : Int) (w : World) (hP : IsP w x g) : Calls Try.prog 17 #[x,.int .i64 v,.int .i64 u] w (Bb w (tf (fC g v u))) :=
 mw (vs:=[x,.int .i64 v,.int .i64 u]) (jg g v u) (.cons (ul hP) (.cons (qA _ _) (.cons (qA _ _) .nil)))
theorem kt (x : Value) (g : Pa) (v u : Int) (w : World) (hP : IsP w x g) : Calls Try.prog 15 #[x,.int .i64 v,.int .i64 u] w (Bb w (tf (fC g v u))) :=
 mw (vs:=[x,.int .i64 v,.int .i64 u]) (jh g v u) (.cons (ul hP) (.cons (qA _ _) (.cons (qA _ _) .nil)))
end Go.Proofs.Ytiadchinhofieaa
