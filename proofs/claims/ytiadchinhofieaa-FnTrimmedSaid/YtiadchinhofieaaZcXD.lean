/-
  Is an edge needed: the program's answer and the reference's, for all arguments.
-/
import Derived.Test.YtiadchinhofieaaZcFc
import Derived.Test.YtiadchinhofieaaZcCb
import Derived.Test.YtiadchinhofieaaZcXA
import Derived.Test.YtiadchinhofieaaZcX7
import Derived.Test.YtiadchinhofieaaZcR9
import Derived.Test.YtiadchinhofieaaZcX4
namespace Go.Proofs.Ytiadchinhofieaa
set_option linter.unusedVariables false
set_option linter.unusedSimpArgs false
open Go.RowKit
theorem pz {P : Program} {f : FuncId} {args : List AV} {fn : Func} (hf : P.funcs[f]? = some fn) (hb : fn.body.isNone = false) (hname : (fn.name == "runtime.NumGoroutine") = false) {x : AV}
  (h : ∀ φ hp w (vs : List Value),AVs φ hp w args vs → Calls P f vs.toArray w fun e w'=>∃ v,e = .returned v ∧ (∀ φ' hp',(∀ b,w.heap.size ≤ b → ¬ Own φ' hp' b) → AVC φ' hp' w' x v) ∧ Below w.heap.size w w') : aq P f args [] fun _=>x:=by
 refine ⟨⟨fn,hf,hb,hname⟩,fun φ0 hp0 w vs hX H hl hv=>(h φ0 hp0 w vs (.of hl hv)).mono fun e w' ⟨v,he,hr,hbw⟩=>⟨v,he,?_⟩⟩
 intro ν hl hn hf
 have : ν = []:=List.eq_nil_of_length_eq_zero hl
 subst this
 have hE : Evo φ0 hp0 w φ0 (cg (ba hp0 []) [] []) w':=⟨fun ν e he=>⟨e,he,.inr ⟨rfl,rfl⟩⟩,fun b hb ho=>⟨hbw.block b hb,ho⟩,hbw.size,fun b hb _=>hbw.block b hb⟩
 refine ⟨φ0,⟨hbw,hbw.size,H.fin,fun ν e he=>?_,H.sep,fun ν b hm hb'=>H.lo ν b hm hb'⟩,hE,hr _ _ fun b hb ho=>?_⟩
 · exact (H.ent ν e he).evo hE fun hk b hb'=>hbw.block b (H.lt ⟨e,he,hk⟩ hb')
 · have:=H.own_lt ho;omega
theorem sZ {O : Nat → Prop} {lo hi : Nat} {w : World} {v : Value} {xss : List (List Int)} {vs : List Value} (h : bi lo hi w v xss vs) (hO : ∀ b,lo ≤ b → ¬ O b) : Rd O w (.R xss) v :=
 lu (.slice none 0 0) h.2.1 hO rfl (by simp [h.1]) rfl rfl fun i hi=>gH (h.2.2.1 i (by rw [← h.1];exact hi)) hO
theorem ru {φ : Nat → Loc} {hp : Hp} {lo hi : Nat} {w : World} {v : Value} {g : Pa} (h : cI lo hi w v g) (hO : ∀ b,lo ≤ b → ¬ Own φ hp b) : AVC φ hp w (paA g) v:=by
 obtain ⟨vo,vn,vp,vs,rfl,h1,h2,h3,_⟩:=h
 exact jg (vs:=[vo,vn,vp]) (.cons (.c (gH h1 hO)) (.cons (.c (sZ h2 hO)) (.cons (.c (gH h3 hO)) .nil)))
theorem rv {φ : Nat → Loc} {hp : Hp} {w : World} {a b : AV} {u v : Value} (h : AVC φ hp w a u) (k : AVC φ hp w b v) : AVC φ hp w (.tup [a,b]) (.tuple #[u,v]) :=
 have h' : AVs φ hp w [a,b] [u,v]:=.cons h (.cons k .nil)
 .tup (vs:=[u,v]) h'.at.1 h'.at.2
theorem wq {φ : Nat → Loc} {hp : Hp} {w : World} {g : Pa} {a b : Int} {vs : List Value} (h : AVs φ hp w [paA g,.c (.int .i64 a),.c (.int .i64 b)] vs) : ∃ x,vs = [x,.int .i64 a,.int .i64 b] ∧ IsP w x g:=by
 match vs,h with
 | [x, y, z], .cons h1 (.cons h2 (.cons h3 .nil)) =>
   have e1 : y = .int .i64 a:=by
    have:=du h2
    cases this with
    | sl hv' => simp [C.view] at hv'
    | _ => rfl
   have e2 : z = .int .i64 b:=by
    have:=du h3
    cases this with
    | sl hv' => simp [C.view] at hv'
    | _ => rfl
   exact ⟨x,by rw [e1,e2],nz h1⟩
end Go.Proofs.Ytiadchinhofieaa
namespace Go.Proofs.Ytiadchinhofieaa
set_option linter.unusedVariables false
set_option linter.unusedSimpArgs false
open Go.RowKit
attribute [local irreducible] aq ci Aw Le
theorem g8 {xs : List Int} {m : Int} (hs : cS xs m) {u : Int} {k : Nat} (hk : k < xs.length) (e : gi xs k = u) : xs.eraseIdx k = d9 (fun x=>¬ x = u) xs xs.length:=by
 have key : ∀ n,n ≤ xs.length → d9 (fun x=>¬ x = u) xs n = (xs.take n).eraseIdx k:=by
  intro n
  induction n with
  | zero => intro _; simp [d9]
  | succ n ih =>
    intro hn
    have ht : xs.take (n + 1) = xs.take n ++ [gi xs n]:=by rw [List.take_succ_eq_append_getElem (by omega),c9 (by omega)]
    have hl : (xs.take n).length = n:=by rw [List.length_take];omega
    by_cases c : n = k
    · subst c
      rw [fp (fun h=>h e),ih (by omega),ht,List.eraseIdx_append_of_length_le (by omega),hl,Nat.sub_self,List.eraseIdx_of_length_le (by omega)]
      simp
    · have hne : ¬ gi xs n = u:=by
       intro h
       rcases Nat.lt_or_ge n k with h'|h'
       · have:=lE (gK hs) (i:=n) (j:=k) hk h';omega
       · have:=lE (gK hs) (i:=k) (j:=n) (by omega) (by omega);omega
      rw [dF hne,ih (by omega),ht]
      rcases Nat.lt_or_ge k n with h'|h'
      · rw [List.eraseIdx_append_of_lt_length (by omega)]
      · rw [List.eraseIdx_of_length_le (by omega),List.eraseIdx_of_length_le (by simp;omega)]
 rw [key _ (Nat.le_refl _),List.take_length]
theorem pA (g : Pa) (hg : PaOk g) (v : Nat) (hv : v < g.prio.length) (u : Int) (hu : u ∈ gr g.ar.nxt v) (h2 : 2 ≤ (gr g.ar.nxt v).length) : aq Try.prog 67 [paA g,.c (.int .i64 v),.c (.int .i64 u)] [] (fun _=>.tup [paA (cP g v u),.c (.bool true)]):=by
 rcases gn (gr g.ar.nxt v) u with ⟨_,h⟩|⟨k,hk,ek,_,ei⟩
 · exact absurd hu h
 have hl:=hg.len
 have hln:=hg.ar.len
 have hfe:=g8 (hg.ar.vert v (by omega)).2.2.2.2 hk ek
 refine pz Try.func67 rfl rfl fun φ hp w vs h=>?_
 obtain ⟨x,rfl,hP⟩:=wq h
 refine (fL x g w hP hg v hv u k hk ei h2).mono ?_
 rintro e w' ⟨s1,n1,c1,s2,n2,c2,s3,n3,c3,rfl,ho,hb⟩
 refine ⟨_,rfl,fun φ' hp' hO=>rv ?_ (.c (.bool _)),hb⟩
 rw [hfe] at ho
 exact ru ho hO
theorem g9 (g : Pa) (hg : PaOk g) (v : Nat) (hv : v < g.prio.length) (u : Int) (h : ¬ u ∈ gr g.ar.nxt v ∨ (gr g.ar.nxt v).length = 1) : aq Try.prog 67 [paA g,.c (.int .i64 v),.c (.int .i64 u)] [] (fun _=>.tup [.agg [.c .nul,.c .nul,.c .nul],.c (.bool false)]):=by
 have hl:=hg.len
 have hln:=hg.ar.len
 have c1:=sX (gr g.ar.nxt v) u
 rcases gn (gr g.ar.nxt v) u with ⟨ei,_⟩|⟨k,hk,ek,_,ei⟩
 · rw [ei] at c1
   (refine bh aG Try.func67 rfl rfl (by kernel_rfl) fun hp0 ν hX hN=>?_;simp only [cx,Nat.reduceAdd])
   (repeat' (first|(with_reducible first|(apply hK;clear hK K)|refine stZ ?_|refine aM rfl ?_|((first|apply ae|apply af);clear ae X af Y))|(with_reducible refine aP ?_;first|refine aN rfl ?_|refine aO rfl ?_)|(with_reducible refine be ?_;first|refine aK rfl rfl rfl rfl ?_|refine bc rfl rfl rfl ?_|refine bp rfl rfl rfl rfl ?_)|(with_reducible refine bU ?_;first|refine bN rfl rfl rfl rfl ?_|refine cn rfl rfl rfl ?_|refine cQ rfl rfl rfl rfl ?_|refine b8 hN ?_)|((first|(with_reducible first|((first|refine aS ?_|refine b9 ?_|refine aT ?_|refine ca ?_);intro K hK)|(refine az ?_;intro X Y ae af)|refine aA ?_)|(with_reducible refine be ?_;refine aL rfl rfl fun X Y ae af=>?_)|(with_reducible refine bU ?_;refine bO rfl rfl fun X Y ae af=>?_));simp (disch:=first|decide|omega|(simp only [List.length_cons,List.length_nil];omega)) only [go_sem,↓am hN,ao hN,reduceIte,reduceCtorEq,Nat.reduceAdd,Nat.reduceLT,Nat.reduceLeDiff,Nat.reduceEqDiff,Nat.reduceSub])|(with_reducible refine And.intro (fun h=>?_) (fun h=>?_) <;> try (exfalso;omega))|(with_reducible refine aR aG hN ?_)|(with_reducible refine bn aG hN ?_)|(refine bJ hN (c1) ?_)|(simp only [ba,List.map_nil])|(with_reducible refine bo ?_)|(with_reducible refine And.intro ?_ ?_)|(refine ak ?_;omega)|(exact aQ hN (by decide))))
   (refine dC hN [] (by decide) (.inr rfl) (by first|exact b7 rfl rfl|exact bL hN rfl rfl rfl rfl|exact bF hN rfl rfl rfl rfl rfl|(simp (disch:=first|decide|omega|(simp only [List.length_cons,List.length_nil];omega)) only [bK,bS,bV,bY,go_sem,beq_self_eq_true,↓au,↓am hN,ao hN,reduceIte,reduceCtorEq,Nat.reduceAdd,Nat.reduceLT,Nat.reduceLeDiff,Nat.reduceEqDiff,Nat.reduceSub];rfl)|rfl) ?_ fun νs hνs=>?_;(repeat' (first|exact Gone.nil|(refine Gone.cons rfl rfl ?_ ?_)|(with_reducible refine cX ?_)|(with_reducible refine cW ?_)|(with_reducible refine SVs.cons ?_ ?_)|(with_reducible exact SVs.nil)|(simp only [List.drop,List.take])|(simp (disch:=first|decide|omega) only [↓au,reduceIte,reduceCtorEq,Nat.reduceEqDiff])|(with_reducible exact eY _)|(with_reducible exact cU _)|(exact cV rfl rfl rfl)|(exact dp 0 (by simp) rfl rfl)|(refine dB hN rfl (cY hN (by decide)) ?_)|(with_reducible refine dA ?_)|(with_reducible rfl)|(with_reducible refine eZ ?_)|(with_reducible refine e8 ?_)|(with_reducible refine e9 ?_)|(with_reducible refine eR ?_)|(with_reducible refine fa ?_)|(refine ak ?_;omega))))
   all_goals rfl
 · have h1 : (gr g.ar.nxt v).length = 1:=h.elim (fun h=>absurd (ek ▸ cE hk) h) id
   rw [ei] at c1
   (refine bh aG Try.func67 rfl rfl (by kernel_rfl) fun hp0 ν hX hN=>?_;simp only [cx,Nat.reduceAdd])
   (repeat' (first|(with_reducible first|(apply hK;clear hK K)|refine stZ ?_|refine aM rfl ?_|((first|apply ae|apply af);clear ae X af Y))|(with_reducible refine aP ?_;first|refine aN rfl ?_|refine aO rfl ?_)|(with_reducible refine be ?_;first|refine aK rfl rfl rfl rfl ?_|refine bc rfl rfl rfl ?_|refine bp rfl rfl rfl rfl ?_)|(with_reducible refine bU ?_;first|refine bN rfl rfl rfl rfl ?_|refine cn rfl rfl rfl ?_|refine cQ rfl rfl rfl rfl ?_|refine b8 hN ?_)|((first|(with_reducible first|((first|refine aS ?_|refine b9 ?_|refine aT ?_|refine ca ?_);intro K hK)|(refine az ?_;intro X Y ae af)|refine aA ?_)|(with_reducible refine be ?_;refine aL rfl rfl fun X Y ae af=>?_)|(with_reducible refine bU ?_;refine bO rfl rfl fun X Y ae af=>?_));simp (disch:=first|decide|omega|(simp only [List.length_cons,List.length_nil];omega)) only [go_sem,↓am hN,ao hN,reduceIte,reduceCtorEq,Nat.reduceAdd,Nat.reduceLT,Nat.reduceLeDiff,Nat.reduceEqDiff,Nat.reduceSub])|(with_reducible refine And.intro (fun h=>?_) (fun h=>?_) <;> try (exfalso;omega))|(with_reducible refine aR aG hN ?_)|(with_reducible refine bn aG hN ?_)|(refine bJ hN (c1) ?_)|(simp only [ba,List.map_nil])|(with_reducible refine bo ?_)|(with_reducible refine And.intro ?_ ?_)|(refine ak ?_;omega)|(exact aQ hN (by decide))))
   all_goals (rw [if_neg (show ¬ (k : Int) < 0 by omega)];(repeat' (first|(with_reducible first|(apply hK;clear hK K)|refine stZ ?_|refine aM rfl ?_|((first|apply ae|apply af);clear ae X af Y))|(with_reducible refine aP ?_;first|refine aN rfl ?_|refine aO rfl ?_)|(with_reducible refine be ?_;first|refine aK rfl rfl rfl rfl ?_|refine bc rfl rfl rfl ?_|refine bp rfl rfl rfl rfl ?_)|(with_reducible refine bU ?_;first|refine bN rfl rfl rfl rfl ?_|refine cn rfl rfl rfl ?_|refine cQ rfl rfl rfl rfl ?_|refine b8 hN ?_)|((first|(with_reducible first|((first|refine aS ?_|refine b9 ?_|refine aT ?_|refine ca ?_);intro K hK)|(refine az ?_;intro X Y ae af)|refine aA ?_)|(with_reducible refine be ?_;refine aL rfl rfl fun X Y ae af=>?_)|(with_reducible refine bU ?_;refine bO rfl rfl fun X Y ae af=>?_));simp (disch:=first|decide|omega|(simp only [List.length_cons,List.length_nil];omega)) only [go_sem,↓am hN,ao hN,reduceIte,reduceCtorEq,Nat.reduceAdd,Nat.reduceLT,Nat.reduceLeDiff,Nat.reduceEqDiff,Nat.reduceSub])|(with_reducible refine And.intro (fun h=>?_) (fun h=>?_) <;> try (exfalso;omega))|(with_reducible refine aR aG hN ?_)|(with_reducible refine bn aG hN ?_)|(with_reducible refine And.intro ?_ ?_)|(refine ak ?_;omega)|(exact aQ hN (by decide)))))
   all_goals first | (exfalso; have hq : (((gr g.ar.nxt v).length : Int) == 1) = false := by assumption
                      rw [h1] at hq;exact absurd hq (by decide))|skip
   (refine dC hN [] (by decide) (.inr rfl) (by first|exact b7 rfl rfl|exact bL hN rfl rfl rfl rfl|exact bF hN rfl rfl rfl rfl rfl|(simp (disch:=first|decide|omega|(simp only [List.length_cons,List.length_nil];omega)) only [bK,bS,bV,bY,go_sem,beq_self_eq_true,↓au,↓am hN,ao hN,reduceIte,reduceCtorEq,Nat.reduceAdd,Nat.reduceLT,Nat.reduceLeDiff,Nat.reduceEqDiff,Nat.reduceSub];rfl)|rfl) ?_ fun νs hνs=>?_;(repeat' (first|exact Gone.nil|(refine Gone.cons rfl rfl ?_ ?_)|(with_reducible refine cX ?_)|(with_reducible refine cW ?_)|(with_reducible refine SVs.cons ?_ ?_)|(with_reducible exact SVs.nil)|(simp only [List.drop,List.take])|(simp (disch:=first|decide|omega) only [↓au,reduceIte,reduceCtorEq,Nat.reduceEqDiff])|(with_reducible exact eY _)|(with_reducible exact cU _)|(exact cV rfl rfl rfl)|(exact dp 0 (by simp) rfl rfl)|(refine dB hN rfl (cY hN (by decide)) ?_)|(with_reducible refine dA ?_)|(with_reducible rfl)|(with_reducible refine eZ ?_)|(with_reducible refine e8 ?_)|(with_reducible refine e9 ?_)|(with_reducible refine eR ?_)|(with_reducible refine fa ?_)|(refine ak ?_;omega))))
   all_goals rfl
end Go.Proofs.Ytiadchinhofieaa
namespace Go.Proofs.Ytiadchinhofieaa
set_option linter.unusedVariables false
set_option linter.unusedSimpArgs false
open Go.RowKit
attribute [local irreducible] aq ci Aw Le
theorem j7 (g : Pa) (hg : PaOk g) (v : Nat) (hv : v < g.prio.length) (u : Int) (hu : u ∈ gr g.ar.nxt v) : aq Try.prog 64 [paA g,.c (.int .i64 v),.c (.int .i64 u)] [] (fun _=>.c (.bool (tf ((gr g.ar.nxt v).length = 1 ∨ bX (cP g v u) ≠ bX g)))):=by
 have hl:=hg.len
 have hln:=hg.ar.len
 have hr:=(hg.ar.vert v (by omega)).2.2.1
 by_cases h2 : (gr g.ar.nxt v).length = 1
 · have h4:=g9 g hg v hv u (.inr h2)
   rw [aH (.inl h2)]
   (refine bh aG Try.func64 rfl rfl (by kernel_rfl) fun hp0 ν hX hN=>?_;simp only [cx,Nat.reduceAdd])
   (repeat' (first|(with_reducible first|(apply hK;clear hK K)|refine stZ ?_|refine aM rfl ?_|((first|apply ae|apply af);clear ae X af Y))|(with_reducible refine aP ?_;first|refine aN rfl ?_|refine aO rfl ?_)|(with_reducible refine be ?_;first|refine aK rfl rfl rfl rfl ?_|refine bc rfl rfl rfl ?_|refine bp rfl rfl rfl rfl ?_)|(with_reducible refine bU ?_;first|refine bN rfl rfl rfl rfl ?_|refine cn rfl rfl rfl ?_|refine cQ rfl rfl rfl rfl ?_|refine b8 hN ?_)|((first|(with_reducible first|((first|refine aS ?_|refine b9 ?_|refine aT ?_|refine ca ?_);intro K hK)|(refine az ?_;intro X Y ae af)|refine aA ?_)|(with_reducible refine be ?_;refine aL rfl rfl fun X Y ae af=>?_)|(with_reducible refine bU ?_;refine bO rfl rfl fun X Y ae af=>?_));simp (disch:=first|decide|omega|(simp only [List.length_cons,List.length_nil];omega)) only [go_sem,↓am hN,ao hN,reduceIte,reduceCtorEq,Nat.reduceAdd,Nat.reduceLT,Nat.reduceLeDiff,Nat.reduceEqDiff,Nat.reduceSub])|(with_reducible refine And.intro (fun h=>?_) (fun h=>?_) <;> try (exfalso;omega))|(with_reducible refine aR aG hN ?_)|(with_reducible refine bn aG hN ?_)|(refine cK (h4) ?_ rfl rfl ?_;focus ((repeat' (first|(with_reducible first|exact aV|refine aJ ?_ ?_|exact cF _|refine bv ?_|exact bz _|exact bR _ _|refine bQ ?_|exact bt _)|exact bw hN rfl rfl|(refine bP hN rfl ?_;first|exact aZ _|exact a8 _)|exact bu rfl rfl rfl));done))|(with_reducible first|exact aV|refine aJ ?_ ?_|exact cF _|refine bv ?_|exact bz _|exact bR _ _|refine bQ ?_|exact bt _)|exact bw hN rfl rfl|(refine bP hN rfl ?_;first|exact aZ _|exact a8 _)|exact bu rfl rfl rfl|(simp only [ba,List.map_nil])|(with_reducible refine bo ?_)|(with_reducible refine And.intro ?_ ?_)|(refine ak ?_;omega)|(exact aQ hN (by decide))))
   (refine dd (.inr rfl) (by first|rfl|(simp (disch:=first|decide|omega|(simp only [List.length_cons,List.length_nil];omega)) only [bK,bS,bV,bY,go_sem,beq_self_eq_true,↓au,↓am hN,ao hN,reduceIte,reduceCtorEq,Nat.reduceAdd,Nat.reduceLT,Nat.reduceLeDiff,Nat.reduceEqDiff,Nat.reduceSub];rfl)) ?_)
   all_goals rfl
 · have h4:=pA g hg v hv u hu (by omega)
   have hc:=gf hg (u:=u) hv (by omega)
   have w1:=kE g hg
   have w2:=kE (cP g v u) hc
   have h5:=sU (bX g) (bX (cP g v u)) (ox hg)
   by_cases hw : bX (cP g v u) = bX g
   · rw [aH hw.symm] at h5
     rw [ax (fun h=>h.elim h2 fun h=>h hw)]
     (refine bh aG Try.func64 rfl rfl (by kernel_rfl) fun hp0 ν hX hN=>?_;simp only [cx,Nat.reduceAdd])
     (repeat' (first|(with_reducible first|(apply hK;clear hK K)|refine stZ ?_|refine aM rfl ?_|((first|apply ae|apply af);clear ae X af Y))|(with_reducible refine aP ?_;first|refine aN rfl ?_|refine aO rfl ?_)|(with_reducible refine be ?_;first|refine aK rfl rfl rfl rfl ?_|refine bc rfl rfl rfl ?_|refine bp rfl rfl rfl rfl ?_)|(with_reducible refine bU ?_;first|refine bN rfl rfl rfl rfl ?_|refine cn rfl rfl rfl ?_|refine cQ rfl rfl rfl rfl ?_|refine b8 hN ?_)|((first|(with_reducible first|((first|refine aS ?_|refine b9 ?_|refine aT ?_|refine ca ?_);intro K hK)|(refine az ?_;intro X Y ae af)|refine aA ?_)|(with_reducible refine be ?_;refine aL rfl rfl fun X Y ae af=>?_)|(with_reducible refine bU ?_;refine bO rfl rfl fun X Y ae af=>?_));simp (disch:=first|decide|omega|(simp only [List.length_cons,List.length_nil];omega)) only [go_sem,↓am hN,ao hN,reduceIte,reduceCtorEq,Nat.reduceAdd,Nat.reduceLT,Nat.reduceLeDiff,Nat.reduceEqDiff,Nat.reduceSub])|(with_reducible refine And.intro (fun h=>?_) (fun h=>?_) <;> try (exfalso;omega))|(with_reducible refine aR aG hN ?_)|(with_reducible refine bn aG hN ?_)|(refine cK (h4) ?_ rfl rfl ?_;focus ((repeat' (first|(with_reducible first|exact aV|refine aJ ?_ ?_|exact cF _|refine bv ?_|exact bz _|exact bR _ _|refine bQ ?_|exact bt _)|exact bw hN rfl rfl|(refine bP hN rfl ?_;first|exact aZ _|exact a8 _)|exact bu rfl rfl rfl));done))|(first|refine bJ hN (w1) ?_|refine bJ hN (h5) ?_)|(refine bJ hN (w2) ?_)|(with_reducible first|exact aV|refine aJ ?_ ?_|exact cF _|refine bv ?_|exact bz _|exact bR _ _|refine bQ ?_|exact bt _)|exact bw hN rfl rfl|(refine bP hN rfl ?_;first|exact aZ _|exact a8 _)|exact bu rfl rfl rfl|(simp only [ba,List.map_nil])|(with_reducible refine bo ?_)|(with_reducible refine And.intro ?_ ?_)|(refine ak ?_;omega)|(exact aQ hN (by decide))))
     (refine dd (.inr rfl) (by first|rfl|(simp (disch:=first|decide|omega|(simp only [List.length_cons,List.length_nil];omega)) only [bK,bS,bV,bY,go_sem,beq_self_eq_true,↓au,↓am hN,ao hN,reduceIte,reduceCtorEq,Nat.reduceAdd,Nat.reduceLT,Nat.reduceLeDiff,Nat.reduceEqDiff,Nat.reduceSub];rfl)) ?_)
     all_goals rfl
   · rw [ax (fun h=>hw h.symm)] at h5
     rw [aH (.inr hw)]
     (refine bh aG Try.func64 rfl rfl (by kernel_rfl) fun hp0 ν hX hN=>?_;simp only [cx,Nat.reduceAdd])
     (repeat' (first|(with_reducible first|(apply hK;clear hK K)|refine stZ ?_|refine aM rfl ?_|((first|apply ae|apply af);clear ae X af Y))|(with_reducible refine aP ?_;first|refine aN rfl ?_|refine aO rfl ?_)|(with_reducible refine be ?_;first|refine aK rfl rfl rfl rfl ?_|refine bc rfl rfl rfl ?_|refine bp rfl rfl rfl rfl ?_)|(with_reducible refine bU ?_;first|refine bN rfl rfl rfl rfl ?_|refine cn rfl rfl rfl ?_|refine cQ rfl rfl rfl rfl ?_|refine b8 hN ?_)|((first|(with_reducible first|((first|refine aS ?_|refine b9 ?_|refine aT ?_|refine ca ?_);intro K hK)|(refine az ?_;intro X Y ae af)|refine aA ?_)|(with_reducible refine be ?_;refine aL rfl rfl fun X Y ae af=>?_)|(with_reducible refine bU ?_;refine bO rfl rfl fun X Y ae af=>?_));simp (disch:=first|decide|omega|(simp only [List.length_cons,List.length_nil];omega)) only [go_sem,↓am hN,ao hN,reduceIte,reduceCtorEq,Nat.reduceAdd,Nat.reduceLT,Nat.reduceLeDiff,Nat.reduceEqDiff,Nat.reduceSub])|(with_reducible refine And.intro (fun h=>?_) (fun h=>?_) <;> try (exfalso;omega))|(with_reducible refine aR aG hN ?_)|(with_reducible refine bn aG hN ?_)|(refine cK (h4) ?_ rfl rfl ?_;focus ((repeat' (first|(with_reducible first|exact aV|refine aJ ?_ ?_|exact cF _|refine bv ?_|exact bz _|exact bR _ _|refine bQ ?_|exact bt _)|exact bw hN rfl rfl|(refine bP hN rfl ?_;first|exact aZ _|exact a8 _)|exact bu rfl rfl rfl));done))|(first|refine bJ hN (w1) ?_|refine bJ hN (h5) ?_)|(refine bJ hN (w2) ?_)|(with_reducible first|exact aV|refine aJ ?_ ?_|exact cF _|refine bv ?_|exact bz _|exact bR _ _|refine bQ ?_|exact bt _)|exact bw hN rfl rfl|(refine bP hN rfl ?_;first|exact aZ _|exact a8 _)|exact bu rfl rfl rfl|(simp only [ba,List.map_nil])|(with_reducible refine bo ?_)|(with_reducible refine And.intro ?_ ?_)|(refine ak ?_;omega)|(exact aQ hN (by decide))))
     (refine dd (.inr rfl) (by first|rfl|(simp (disch:=first|decide|omega|(simp only [List.length_cons,List.length_nil];omega)) only [bK,bS,bV,bY,go_sem,beq_self_eq_true,↓au,↓am hN,ao hN,reduceIte,reduceCtorEq,Nat.reduceAdd,Nat.reduceLT,Nat.reduceLeDiff,Nat.reduceEqDiff,Nat.reduceSub];rfl)) ?_)
     all_goals rfl
theorem xX (g : Pa) (v u : Int) : aq Try.prog 17 [paA g,.c (.int .i64 v),.c (.int .i64 u)] [] (fun _=>.c (.bool (tf (xU g v u)))):=by
 have h1:=jH g
 have h2:=oh g.ar v
 by_cases hg : PaOk g
 · rw [aH hg] at h1
   have hl:=hg.len
   have hln:=hg.ar.len
   have hle:=hg.ar.le
   by_cases hv : iM g.ar.own.length v
   · rw [aH hv] at h2
     obtain ⟨n,rfl⟩:=Int.eq_ofNat_of_zero_le hv.1
     have hn : n < g.prio.length:=by have:=hv.2;omega
     have h3:=yn (gr g.ar.nxt n) u
     by_cases hu : u ∈ gr g.ar.nxt n
     · rw [aH hu] at h3
       have h4:=j7 g hg n hn u hu
       have e : xU g (n : Int) u ↔ ((gr g.ar.nxt n).length = 1 ∨ bX (cP g n u) ≠ bX g):=⟨fun h=>h.2.2.2.2,fun h=>⟨hg,by omega,by omega,hu,h⟩⟩
       rw [eg e]
       (refine bh aG Try.func17 rfl rfl (by kernel_rfl) fun hp0 ν hX hN=>?_;simp only [cx,Nat.reduceAdd])
       (repeat' (first|(with_reducible first|(apply hK;clear hK K)|refine stZ ?_|refine aM rfl ?_|((first|apply ae|apply af);clear ae X af Y))|(with_reducible refine aP ?_;first|refine aN rfl ?_|refine aO rfl ?_)|(with_reducible refine be ?_;first|refine aK rfl rfl rfl rfl ?_|refine bc rfl rfl rfl ?_|refine bp rfl rfl rfl rfl ?_)|((first|(with_reducible first|((first|refine aS ?_|refine aT ?_);intro K hK)|(refine az ?_;intro X Y ae af)|refine aA ?_)|(with_reducible refine be ?_;refine aL rfl rfl fun X Y ae af=>?_));simp (disch:=first|decide|omega|(simp only [List.length_cons,List.length_nil];omega)) only [go_sem,↓am hN,ao hN,reduceIte,reduceCtorEq,Nat.reduceAdd,Nat.reduceLT,Nat.reduceLeDiff,Nat.reduceEqDiff,Nat.reduceSub])|(with_reducible refine And.intro (fun h=>?_) (fun h=>?_) <;> try (exfalso;omega))|(with_reducible refine aR aG hN ?_)|(first|refine bJ hN (h1) ?_|refine bJ hN (h2) ?_|refine bJ hN (h3) ?_|refine bJ hN (h4) ?_)|(simp only [ba,List.map_nil])|(with_reducible refine bo ?_)|(with_reducible refine And.intro ?_ ?_)|(refine ak ?_;omega)|(exact aQ hN (by decide))))
       (refine dd (.inr rfl) (by first|rfl|(simp (disch:=first|decide|omega|(simp only [List.length_cons,List.length_nil];omega)) only [bK,bS,bV,bY,go_sem,beq_self_eq_true,↓au,↓am hN,ao hN,reduceIte,reduceCtorEq,Nat.reduceAdd,Nat.reduceLT,Nat.reduceLeDiff,Nat.reduceEqDiff,Nat.reduceSub];rfl)) ?_)
       all_goals rfl
     · rw [ax hu] at h3
       rw [ax fun h : xU g (n : Int) u=>hu h.2.2.2.1]
       (refine bh aG Try.func17 rfl rfl (by kernel_rfl) fun hp0 ν hX hN=>?_;simp only [cx,Nat.reduceAdd])
       (repeat' (first|(with_reducible first|(apply hK;clear hK K)|refine stZ ?_|refine aM rfl ?_|((first|apply ae|apply af);clear ae X af Y))|(with_reducible refine aP ?_;first|refine aN rfl ?_|refine aO rfl ?_)|(with_reducible refine be ?_;first|refine aK rfl rfl rfl rfl ?_|refine bc rfl rfl rfl ?_|refine bp rfl rfl rfl rfl ?_)|((first|(with_reducible first|((first|refine aS ?_|refine aT ?_);intro K hK)|(refine az ?_;intro X Y ae af)|refine aA ?_)|(with_reducible refine be ?_;refine aL rfl rfl fun X Y ae af=>?_));simp (disch:=first|decide|omega|(simp only [List.length_cons,List.length_nil];omega)) only [go_sem,↓am hN,ao hN,reduceIte,reduceCtorEq,Nat.reduceAdd,Nat.reduceLT,Nat.reduceLeDiff,Nat.reduceEqDiff,Nat.reduceSub])|(with_reducible refine And.intro (fun h=>?_) (fun h=>?_) <;> try (exfalso;omega))|(with_reducible refine aR aG hN ?_)|(first|refine bJ hN (h1) ?_|refine bJ hN (h2) ?_|refine bJ hN (h3) ?_)|(simp only [ba,List.map_nil])|(with_reducible refine bo ?_)|(with_reducible refine And.intro ?_ ?_)|(refine ak ?_;omega)|(exact aQ hN (by decide))))
       (refine dd (.inr rfl) (by first|rfl|(simp (disch:=first|decide|omega|(simp only [List.length_cons,List.length_nil];omega)) only [bK,bS,bV,bY,go_sem,beq_self_eq_true,↓au,↓am hN,ao hN,reduceIte,reduceCtorEq,Nat.reduceAdd,Nat.reduceLT,Nat.reduceLeDiff,Nat.reduceEqDiff,Nat.reduceSub];rfl)) ?_)
       all_goals rfl
   · rw [ax hv] at h2
     rw [ax fun h : xU g v u=>hv ⟨h.2.1,by have:=h.2.2.1;omega⟩]
     (refine bh aG Try.func17 rfl rfl (by kernel_rfl) fun hp0 ν hX hN=>?_;simp only [cx,Nat.reduceAdd])
     (repeat' (first|(with_reducible first|(apply hK;clear hK K)|refine stZ ?_|refine aM rfl ?_|((first|apply ae|apply af);clear ae X af Y))|(with_reducible refine aP ?_;first|refine aN rfl ?_|refine aO rfl ?_)|(with_reducible refine be ?_;first|refine aK rfl rfl rfl rfl ?_|refine bc rfl rfl rfl ?_|refine bp rfl rfl rfl rfl ?_)|((first|(with_reducible first|((first|refine aS ?_|refine aT ?_);intro K hK)|(refine az ?_;intro X Y ae af)|refine aA ?_)|(with_reducible refine be ?_;refine aL rfl rfl fun X Y ae af=>?_));simp (disch:=first|decide|omega|(simp only [List.length_cons,List.length_nil];omega)) only [go_sem,↓am hN,ao hN,reduceIte,reduceCtorEq,Nat.reduceAdd,Nat.reduceLT,Nat.reduceLeDiff,Nat.reduceEqDiff,Nat.reduceSub])|(with_reducible refine And.intro (fun h=>?_) (fun h=>?_) <;> try (exfalso;omega))|(with_reducible refine aR aG hN ?_)|(first|refine bJ hN (h1) ?_|refine bJ hN (h2) ?_)|(simp only [ba,List.map_nil])|(with_reducible refine bo ?_)|(with_reducible refine And.intro ?_ ?_)|(refine ak ?_;omega)|(exact aQ hN (by decide))))
     (refine dd (.inr rfl) (by first|rfl|(simp (disch:=first|decide|omega|(simp only [List.length_cons,List.length_nil];omega)) only [bK,bS,bV,bY,go_sem,beq_self_eq_true,↓au,↓am hN,ao hN,reduceIte,reduceCtorEq,Nat.reduceAdd,Nat.reduceLT,Nat.reduceLeDiff,Nat.reduceEqDiff,Nat.reduceSub];rfl)) ?_)
     all_goals rfl
 · rw [ax hg] at h1
   rw [ax fun h : xU g v u=>hg h.1]
   (refine bh aG Try.func17 rfl rfl (by kernel_rfl) fun hp0 ν hX hN=>?_;simp only [cx,Nat.reduceAdd])
   (repeat' (first|(with_reducible first|(apply hK;clear hK K)|refine stZ ?_|refine aM rfl ?_|((first|apply ae|apply af);clear ae X af Y))|(with_reducible refine aP ?_;first|refine aN rfl ?_|refine aO rfl ?_)|(with_reducible refine be ?_;first|refine aK rfl rfl rfl rfl ?_|refine bc rfl rfl rfl ?_|refine bp rfl rfl rfl rfl ?_)|((first|(with_reducible first|((first|refine aS ?_|refine aT ?_);intro K hK)|(refine az ?_;intro X Y ae af)|refine aA ?_)|(with_reducible refine be ?_;refine aL rfl rfl fun X Y ae af=>?_));simp (disch:=first|decide|omega|(simp only [List.length_cons,List.length_nil];omega)) only [go_sem,↓am hN,ao hN,reduceIte,reduceCtorEq,Nat.reduceAdd,Nat.reduceLT,Nat.reduceLeDiff,Nat.reduceEqDiff,Nat.reduceSub])|(with_reducible refine And.intro (fun h=>?_) (fun h=>?_) <;> try (exfalso;omega))|(with_reducible refine aR aG hN ?_)|(refine bJ hN (h1) ?_)|(simp only [ba,List.map_nil])|(with_reducible refine bo ?_)|(with_reducible refine And.intro ?_ ?_)|(refine ak ?_;omega)|(exact aQ hN (by decide))))
   (refine dd (.inr rfl) (by first|rfl|(simp (disch:=first|decide|omega|(simp only [List.length_cons,List.length_nil];omega)) only [bK,bS,bV,bY,go_sem,beq_self_eq_true,↓au,↓am hN,ao hN,reduceIte,reduceCtorEq,Nat.reduceAdd,Nat.reduceLT,Nat.reduceLeDiff,Nat.reduceEqDiff,Nat.reduceSub];rfl)) ?_)
   all_goals rfl
theorem pB (a : Ar) (x : Int) (hl : a.own.length ≤ 1048576) : aq Try.prog 78 [arA a,.c (.int .i64 x)] [] (fun _=>.c (.bool (tf (iM a.own.length x)))):=by
 have c1:=qO x 0 ((a.own.length : Int) - 1)
 rw [eg (show (0 ≤ x ∧ x ≤ (a.own.length : Int) - 1) ↔ iM a.own.length x from ⟨fun h=>⟨h.1,by omega⟩,fun h=>⟨h.1,by have:=h.2;omega⟩⟩)] at c1
 (refine bh aG Try.func78 rfl rfl (by kernel_rfl) fun hp0 ν hX hN=>?_;simp only [cx,Nat.reduceAdd])
 (repeat' (first|(with_reducible first|(apply hK;clear hK K)|refine stZ ?_|refine aM rfl ?_|((first|apply ae|apply af);clear ae X af Y))|(with_reducible refine aP ?_;first|refine aN rfl ?_|refine aO rfl ?_)|((with_reducible first|((first|refine aS ?_|refine aT ?_);intro K hK)|(refine az ?_;intro X Y ae af)|refine aA ?_);simp (disch:=first|decide|omega|(simp only [List.length_cons,List.length_nil];omega)) only [go_sem,↓am hN,ao hN,reduceIte,reduceCtorEq,Nat.reduceAdd,Nat.reduceLT,Nat.reduceLeDiff,Nat.reduceEqDiff,Nat.reduceSub])|(with_reducible refine And.intro (fun h=>?_) (fun h=>?_) <;> try (exfalso;omega))|(with_reducible refine aR aG hN ?_)|(refine bE c1 ?_ rfl (fun _=>rfl) ?_)|(with_reducible first|exact aV|refine aJ ?_ ?_|exact cF _|refine bv ?_|exact bz _|exact bR _ _|refine bQ ?_|exact bt _)|exact bw hN rfl rfl|(refine bP hN rfl ?_;first|exact aZ _|exact a8 _)|exact bu rfl rfl rfl|(simp only [ba,List.map_nil])|(with_reducible refine bo ?_)|(with_reducible refine And.intro ?_ ?_)|(refine ak ?_;omega)|(exact aQ hN (by decide))))
 (refine dd (.inr rfl) (by first|rfl|(simp (disch:=first|decide|omega|(simp only [List.length_cons,List.length_nil];omega)) only [bK,bS,bV,bY,go_sem,beq_self_eq_true,↓au,↓am hN,ao hN,reduceIte,reduceCtorEq,Nat.reduceAdd,Nat.reduceLT,Nat.reduceLeDiff,Nat.reduceEqDiff,Nat.reduceSub];rfl)) ?_)
 rfl
theorem pC (a : Ar) (ha : ArOk a) (v u : Int) (h : ¬ (iM a.own.length v ∧ u ∈ gr a.nxt v.toNat)) : aq Try.prog 31 [arA a,.c (.int .i64 v),.c (.int .i64 u)] [] (fun _=>.c (.bool false)):=by
 have hln:=ha.len
 have hle:=ha.le
 have h1:=og a
 rw [aH ha] at h1
 have h2:=pB a v (by omega)
 by_cases hv : iM a.own.length v
 · rw [aH hv] at h2
   obtain ⟨n,rfl⟩:=Int.eq_ofNat_of_zero_le hv.1
   have hn : n < a.own.length:=by have:=hv.2;omega
   have h3:=oz (gr a.nxt n) u
   rw [ax fun hu=>h ⟨hv,by rw [Int.toNat_natCast];exact hu⟩] at h3
   (refine bh aG Try.func31 rfl rfl (by kernel_rfl) fun hp0 ν hX hN=>?_;simp only [cx,Nat.reduceAdd])
   (repeat' (first|(with_reducible first|(apply hK;clear hK K)|refine stZ ?_|refine aM rfl ?_|((first|apply ae|apply af);clear ae X af Y))|(with_reducible refine aP ?_;first|refine aN rfl ?_|refine aO rfl ?_)|(with_reducible refine be ?_;first|refine aK rfl rfl rfl rfl ?_|refine bc rfl rfl rfl ?_|refine bp rfl rfl rfl rfl ?_)|((first|(with_reducible first|((first|refine aS ?_|refine aT ?_);intro K hK)|(refine az ?_;intro X Y ae af)|refine aA ?_)|(with_reducible refine be ?_;refine aL rfl rfl fun X Y ae af=>?_));simp (disch:=first|decide|omega|(simp only [List.length_cons,List.length_nil];omega)) only [go_sem,↓am hN,ao hN,reduceIte,reduceCtorEq,Nat.reduceAdd,Nat.reduceLT,Nat.reduceLeDiff,Nat.reduceEqDiff,Nat.reduceSub])|(with_reducible refine And.intro (fun h=>?_) (fun h=>?_) <;> try (exfalso;omega))|(with_reducible refine aR aG hN ?_)|(first|refine bJ hN (h1) ?_|refine bJ hN (h2) ?_|refine bJ hN (h3) ?_)|(simp only [ba,List.map_nil])|(with_reducible refine bo ?_)|(with_reducible refine And.intro ?_ ?_)|(refine ak ?_;omega)|(exact aQ hN (by decide))))
   (refine dd (.inr rfl) (by first|rfl|(simp (disch:=first|decide|omega|(simp only [List.length_cons,List.length_nil];omega)) only [bK,bS,bV,bY,go_sem,beq_self_eq_true,↓au,↓am hN,ao hN,reduceIte,reduceCtorEq,Nat.reduceAdd,Nat.reduceLT,Nat.reduceLeDiff,Nat.reduceEqDiff,Nat.reduceSub];rfl)) ?_)
   all_goals rfl
 · rw [ax hv] at h2
   (refine bh aG Try.func31 rfl rfl (by kernel_rfl) fun hp0 ν hX hN=>?_;simp only [cx,Nat.reduceAdd])
   (repeat' (first|(with_reducible first|(apply hK;clear hK K)|refine stZ ?_|refine aM rfl ?_|((first|apply ae|apply af);clear ae X af Y))|(with_reducible refine aP ?_;first|refine aN rfl ?_|refine aO rfl ?_)|(with_reducible refine be ?_;first|refine aK rfl rfl rfl rfl ?_|refine bc rfl rfl rfl ?_|refine bp rfl rfl rfl rfl ?_)|((first|(with_reducible first|((first|refine aS ?_|refine aT ?_);intro K hK)|(refine az ?_;intro X Y ae af)|refine aA ?_)|(with_reducible refine be ?_;refine aL rfl rfl fun X Y ae af=>?_));simp (disch:=first|decide|omega|(simp only [List.length_cons,List.length_nil];omega)) only [go_sem,↓am hN,ao hN,reduceIte,reduceCtorEq,Nat.reduceAdd,Nat.reduceLT,Nat.reduceLeDiff,Nat.reduceEqDiff,Nat.reduceSub])|(with_reducible refine And.intro (fun h=>?_) (fun h=>?_) <;> try (exfalso;omega))|(with_reducible refine aR aG hN ?_)|(first|refine bJ hN (h1) ?_|refine bJ hN (h2) ?_)|(simp only [ba,List.map_nil])|(with_reducible refine bo ?_)|(with_reducible refine And.intro ?_ ?_)|(refine ak ?_;omega)|(exact aQ hN (by decide))))
   (refine dd (.inr rfl) (by first|rfl|(simp (disch:=first|decide|omega|(simp only [List.length_cons,List.length_nil];omega)) only [bK,bS,bV,bY,go_sem,beq_self_eq_true,↓au,↓am hN,ao hN,reduceIte,reduceCtorEq,Nat.reduceAdd,Nat.reduceLT,Nat.reduceLeDiff,Nat.reduceEqDiff,Nat.reduceSub];rfl)) ?_)
   all_goals rfl
end Go.Proofs.Ytiadchinhofieaa
