/-
  FnHalves: the functions that it calls, as contracts over data.
-/
import Derived.Test.YthjamlponejffaaZhNT
import Derived.Test.YthjamlponejffaaZhNK
import Derived.Test.YthjamlponejffaaZhD5
import Derived.Test.YthjamlponejffaaZhM3
import Derived.Test.YthjamlponejffaaZhD6
import Derived.Test.YthjamlponejffaaZhE23
namespace Go.Proofs.Ythjamlponejffaa
set_option linter.unusedVariables false
set_option linter.unusedSimpArgs false
open Go.RowKit
abbrev ew (g : Pa) : List Int:=tab g.prio.length fun v=>(v : Int)
theorem nq {g : Pa} : (fun v : Nat=>(v : Int) ∈ ew g) = fun v=>v < g.prio.length:=by
 rw [ew,iV]
 exact ow fun _ h=>h
theorem oK {g : Pa} (hg : PaOk g) {i : Int} (hi : i = 0 ∨ i = 1) : atL (bo g) i = lst (PG.Won (pgP g) i (d6 g)) g.prio.length:=by
 have hs:=gN (bo g) i
 rw [dK] at hs
 have h:=pD (n:=g.prio.length) (xs:=atL (bo g) i) ?_ fun x hx=>by
  obtain ⟨k,hk,e⟩:=ck hx
  have:=hs k hk
  omega
 · rw [h]
   exact ff fun v _=>uM hg hi v
 · refine List.pairwise_iff_getElem.2 fun a b ha hb hab=>?_
   have:=lV hs hab hb
   rwa [dC ha,dC hb] at this
theorem gz {g : Pa} (hg : PaOk g) {i : Int} (hi : i = 0 ∨ i = 1) : PG.Dom (pgP g) i (d6 g) (PG.Won (pgP g) i (d6 g)):=(PG.won_for gS jh (cY hg) hi).1
structure AllQ (g : Pa) (who mine yours : Int) (D : Nat) : Prop where
 small : dA g
 who : (D : Int) % 2 = who
 top : dr g.prio (ew g) (ew g).length ≤ D
 le : D ≤ 41
 mine : 0 ≤ mine ∧ mine ≤ 12
 yours : 0 ≤ yours ∧ yours ≤ 12
theorem AllQ.ask {g : Pa} {who mine yours : Int} {D : Nat} (h : AllQ g who mine yours D) : gR g (ew g) who D mine yours:=by
 have hw:=h.who
 have hl:=h.small.1.len
 refine ⟨h.small,?_,by omega,by omega,by have:=h.le;omega,by rw [Int.tmod_eq_emod_of_nonneg (by omega)];exact hw,h.top,h.mine.1,h.mine.2,h.yours.1,h.yours.2⟩
 have:=oE h.small.1
 rwa [← hl] at this
theorem AllQ.low {g : Pa} {who mine yours : Int} {D : Nat} (h : AllQ g who mine yours D) : ∀ v,d6 g v → (pgP g).prio v ≤ D:=fun v hv=>by
 have hf:=(sK h.ask).low v
 have hm : (v : Int) ∈ ew g:=by rw [ew,iV];exact (eJ hv).2 hv
 exact hf hm
noncomputable def jn (g : Pa) (who mine yours : Int) (D : Nat) : List Int:=lst (qA (pgA g) g.prio.length (D + 1) who (fun v=>v < g.prio.length) mine yours) g.prio.length
noncomputable def ko (g : Pa) (who mine yours : Int) (D : Nat) : List Int:=lst (qR (pgA g) (qA (pgA g) g.prio.length D) who D mine yours fun v=>v < g.prio.length) g.prio.length
theorem wy {g : Pa} {who mine yours : Int} {D : Nat} (h : AllQ g who mine yours D) : qM g (ew g) who D mine yours = jn g who mine yours D:=by
 rw [qM,if_pos h.ask,Int.toNat_natCast,nq];rfl
theorem uR {g : Pa} {who mine yours : Int} {D : Nat} (h : AllQ g who mine yours D) : qL g (ew g) who D mine yours = ko g who mine yours D:=by
 rw [qL,if_pos h.ask,Int.toNat_natCast,nq];rfl
theorem tq {g : Pa} {who mine yours : Int} {D : Nat} (h : AllQ g who mine yours D) (hn : ((atL (bo g) who).length : Int) ≤ mine) : ∀ x,x ∈ atL (bo g) who → x ∈ jn g who mine yours D:=fun x hx=>by
 have hw:=h.who
 have hi : who = 0 ∨ who = 1:=by omega
 rw [oK h.small.1 hi] at hx hn
 obtain ⟨v,h1,h2,rfl⟩:=cW.1 hx
 rw [gw] at hn
 refine (eJ h1).2 ((kp gS (D + 1) who (d6 g) mine yours hi (by omega) h.mine.1 h.yours.1 jh (cY h.small.1) (fun v hv=>by have:=h.low v hv;omega)).1 _ (gz h.small.1 hi) hn v h2)
theorem uS {g : Pa} {who mine yours : Int} {D : Nat} (h : AllQ g who mine yours D) (hn : ((atL (bo g) (1 - who)).length : Int) ≤ yours) : ∀ x,x ∈ atL (bo g) (1 - who) → ¬ x ∈ jn g who mine yours D:=fun x hx hg=>by
 have hw:=h.who
 have hi : who = 0 ∨ who = 1:=by omega
 have hi' : 1 - who = 0 ∨ 1 - who = 1:=by omega
 rw [oK h.small.1 hi'] at hx hn
 obtain ⟨v,h1,h2,rfl⟩:=cW.1 hx
 rw [gw] at hn
 exact (kp gS (D + 1) who (d6 g) mine yours hi (by omega) h.mine.1 h.yours.1 jh (cY h.small.1) (fun v hv=>by have:=h.low v hv;omega)).2 _ (gz h.small.1 hi') hn v h2 ((eJ h1).1 hg)
theorem ra {g : Pa} {who mine yours : Int} {D : Nat} (h : AllQ g who mine yours D) (hn : ((atL (bo g) who).length : Int) ≤ mine) : ∀ x,x ∈ atL (bo g) who → x ∈ ko g who mine yours D:=fun x hx=>by
 have hw:=h.who
 have hi : who = 0 ∨ who = 1:=by omega
 rw [oK h.small.1 hi] at hx hn
 obtain ⟨v,h1,h2,rfl⟩:=cW.1 hx
 rw [gw] at hn
 exact (eJ h1).2 (uT gS hw h.mine.1 h.yours.1 jh (cY h.small.1) h.low (gz h.small.1 hi) hn v h2)
theorem uU {g : Pa} (hs : dA g) : qwL g = bo g:=by
 have hg:=hs.1
 have hq:=sM hs
 have hi : (qD g : Int) % 2 = 0 ∨ (qD g : Int) % 2 = 1:=by omega
 have hc:=kp (P:=pgP g) (n:=g.prio.length) gS (qD g + 1) ((qD g : Int) % 2) (d6 g) g.prio.length g.prio.length hi (by omega) (by omega) (by omega) jh (cY hg) (fun v hv=>by have:=hq.low v hv;show (pgA g).prio v ≤ _;omega)
 have hle : ∀ X : Nat → Prop,(num X g.prio.length : Int) ≤ g.prio.length:=fun X=>by have:=gZ (p:=X) (k:=g.prio.length);omega
 have hin:=hc.1 _ (gz hg hi) (hle _)
 have hout:=hc.2 _ (gz (i:=1 - (qD g : Int) % 2) hg (by omega)) (hle _)
 have hx : ∀ v,v < g.prio.length → (qX g v ↔ PG.Won (pgP g) ((qD g : Int) % 2) (d6 g) v):=fun v hv=>by
  refine ⟨fun h=>Classical.byContradiction fun hno=>?_,fun h=>hin v h⟩
  refine hout v ?_ h
  rw [nd gS jh (cY hg) hi]
  exact ⟨hv,hno⟩
 refine bR fun v hv=>?_
 rw [cM (hx v hv)]
 have hn:=PG.won_not (G:=pgP g) gS jh (cY hg) (S:=d6 g) (v:=v) hv
 rcases hi with e|e
 · rw [e]
   by_cases h : PG.Won (pgP g) 0 (d6 g) v
   · rw [bc h];rfl
   · rw [aH h];rfl
 · rw [e]
   by_cases h : PG.Won (pgP g) 0 (d6 g) v
   · rw [bc h,aH (fun h'=>hn.1 h' h)];rfl
   · rw [aH h,bc (hn.2 h)];rfl
end Go.Proofs.Ythjamlponejffaa
namespace Go.Proofs.Ythjamlponejffaa
set_option linter.unusedVariables false
set_option linter.unusedSimpArgs false
open Go.RowKit
theorem pL {φ : Nat → Loc} {hp : Hp} {w : World} {g : Pa} {xs : List Int} {a b c d : Int} {vs : List Value} (h : AVs φ hp w [paA g,.c (.I xs),.c (.int .i64 a),.c (.int .i64 b),.c (.int .i64 c),.c (.int .i64 d)] vs) : ∃ x u,vs = [x,u,.int .i64 a,.int .i64 b,.int .i64 c,.int .i64 d] ∧ IsP w x g ∧ IsI w u xs:=by
 cases h with|cons h1 h =>
 cases h with|cons h2 h =>
 cases h with|cons h3 h =>
 cases h with|cons h4 h =>
 cases h with|cons h5 h =>
 cases h with|cons h6 h =>
 cases h with|nil =>
 rw [ch h3,ch h4,ch h5,ch h6]
 exact ⟨_,_,rfl,od h1,lN (dt h2)⟩
theorem tr {φ : Nat → Loc} {hp : Hp} {w : World} {g : Pa} {vs : List Value} (h : AVs φ hp w [paA g] vs) : ∃ x,vs = [x] ∧ IsP w x g:=by
 match vs,h with
 | [x], .cons h1 .nil => exact ⟨x, rfl, od h1⟩
theorem oM (g : Pa) (xs : List Int) (who d mine yours : Int) : ap Try.prog 12 [paA g,.c (.I xs),.c (.int .i64 who),.c (.int .i64 d),.c (.int .i64 mine),.c (.int .i64 yours)] [.arr 2 .may (.I (qM g xs who d mine yours))] (fun ns=>.sl (ns.getD 0 0)) :=
 j8 Try.func12 rfl rfl fun φ hp w vs hv=>by
  obtain ⟨x,u,rfl,hP,hI⟩:=pL hv
  exact oB x u g xs who d mine yours w hP hI
theorem rb (g : Pa) (xs : List Int) (who d mine yours : Int) : ap Try.prog 19 [paA g,.c (.I xs),.c (.int .i64 who),.c (.int .i64 d),.c (.int .i64 mine),.c (.int .i64 yours)] [.arr 2 .may (.I (qL g xs who d mine yours))] (fun ns=>.sl (ns.getD 0 0)) :=
 j8 Try.func19 rfl rfl fun φ hp w vs hv=>by
  obtain ⟨x,u,rfl,hP,hI⟩:=pL hv
  exact qO x u g xs who d mine yours w hP hI
theorem oN (g : Pa) : ap Try.prog 21 [paA g] [.arr 2 .may (.I (qwN g))] (fun ns=>.sl (ns.getD 0 0)) :=
 j8 Try.func21 rfl rfl fun φ hp w vs hv=>by
  obtain ⟨x,rfl,hP⟩:=tr hv
  exact oD x g w hP
end Go.Proofs.Ythjamlponejffaa
namespace Go.Proofs.Ythjamlponejffaa
set_option linter.unusedVariables false
set_option linter.unusedSimpArgs false
open Go.RowKit
attribute [local irreducible] ap b7 Aw Le
theorem uV (g : Pa) (xs : List Int) (hB : Bnd xs g.prio.length) (hl : xs.length ≤ 1048576) : ap Try.prog 64 [paA g,.c (.I xs)] [] (fun _=>.c (.int .i64 (dr g.prio xs xs.length))):=by
 (refine bf aI Try.func64 rfl rfl (by kernel_rfl) fun hp0 ν hX hN=>?_;simp only [bW,Nat.reduceAdd])
 (repeat' (first|(with_reducible first|(apply hK;clear hK K)|refine stZ ?_|refine aT rfl ?_|((first|apply ae|apply af);clear ae X af Y))|(with_reducible refine aW ?_;first|refine aU rfl ?_|refine aV rfl ?_)|(with_reducible refine b8 ?_;refine cc hN ?_)|((with_reducible first|((first|refine aZ ?_|refine ce ?_|refine a8 ?_|refine cf ?_);intro K hK)|(refine aE ?_;intro X Y ae af)|refine aF ?_);simp (disch:=first|decide|omega|(simp only [List.length_cons,List.length_nil];omega)) only [go_sem,↓aj hN,ak hN,reduceIte,reduceCtorEq,Nat.reduceAdd,Nat.reduceLT,Nat.reduceLeDiff,Nat.reduceEqDiff,Nat.reduceSub])|(with_reducible refine And.intro (fun h=>?_) (fun h=>?_) <;> try (exfalso;omega))|(with_reducible refine aY aI hN ?_)|(with_reducible refine bF aI hN ?_)|(with_reducible refine And.intro ?_ ?_)|(refine ah ?_;omega)|(exact aX hN (by decide))))
 (refine bT (fun (k : Nat)=>(tmL [(6,.c (.int .i64 k)),(5,.c (.int .i64 (dr g.prio xs k))),(2,.ad (ν 0) 0),(1,.c (.I xs))],hpL hp0 ν [.box [.c (.I g.ar.own),.c (.R g.ar.nxt),.c (.I g.prio)]])) (fun (k : Nat)=>k ≤ xs.length) (fun (k : Nat)=>xs.length - k) ⟨0,?_,bB hX hN [] ?_ ?_⟩ ?_;(repeat' (first|(with_reducible first|exact clZ|refine bw ?_ ?_|refine bz ?_ ?_|rfl|refine suZ ?_)|refine bA rfl ?_ ?_|exact aP hN _ rfl rfl rfl|exact aQ hN _ rfl rfl rfl|exact ax hN _ rfl rfl rfl (Or.inr rfl)|(refine aR hN _ rfl rfl (by first|exact Or.inr rfl|exact Or.inl rfl) ?_;first|exact aC _|exact aD _)|refine ay hN rfl ?_|refine az hN rfl rfl ?_|exact au hN _ rfl rfl|exact aA hN rfl rfl rfl rfl|(with_reducible first|refine stZ ?_|refine aO ?_)));(try (any_goals (first|(with_reducible rfl)|(refine ah ?_;omega)))))
 · rfl
 intro k hk
 have hb:=hB k
 (repeat' (first|(with_reducible first|(apply hK;clear hK K)|refine stZ ?_|refine aT rfl ?_|((first|apply ae|apply af);clear ae X af Y))|(with_reducible refine aW ?_;first|refine aU rfl ?_|refine aV rfl ?_)|(with_reducible refine b8 ?_;refine cc hN ?_)|((with_reducible first|((first|refine aZ ?_|refine ce ?_|refine a8 ?_|refine cf ?_);intro K hK)|(refine aE ?_;intro X Y ae af)|refine aF ?_);simp (disch:=first|decide|omega|(simp only [List.length_cons,List.length_nil];omega)) only [go_sem,↓aj hN,ak hN,reduceIte,reduceCtorEq,Nat.reduceAdd,Nat.reduceLT,Nat.reduceLeDiff,Nat.reduceEqDiff,Nat.reduceSub])|(with_reducible refine And.intro (fun h=>?_) (fun h=>?_) <;> try (exfalso;omega))|(with_reducible refine aY aI hN ?_)|(with_reducible refine bF aI hN ?_)|(refine aB (pj ?_ ?_) ?_ rfl (fun _=>rfl) ?_)|(with_reducible first|exact aq|refine am ?_ ?_|exact bH _|refine aM ?_|exact aL _|exact bj _ _|refine bi ?_|exact aJ _)|exact aN hN rfl rfl|(refine bh hN rfl ?_;first|exact aC _|exact aD _)|exact aK rfl rfl rfl|(simp only [ba,List.map_nil])|(with_reducible refine bu ?_)|(with_reducible refine And.intro ?_ ?_)|(refine ah ?_;omega)|(exact aX hN (by decide))))
 · (refine ⟨k + 1,⟨?_,?_⟩,bB hX hN [] ?_ ?_⟩;(try any_goals dsimp only);(repeat' (first|(with_reducible first|exact clZ|refine bw ?_ ?_|refine bz ?_ ?_|rfl|refine suZ ?_)|refine bA rfl ?_ ?_|exact aP hN _ rfl rfl rfl|exact aQ hN _ rfl rfl rfl|exact ax hN _ rfl rfl rfl (Or.inr rfl)|(refine aR hN _ rfl rfl (by first|exact Or.inr rfl|exact Or.inl rfl) ?_;first|exact aC _|exact aD _)|refine ay hN rfl ?_|refine az hN rfl rfl ?_|exact au hN _ rfl rfl|exact aA hN rfl rfl rfl rfl|(with_reducible first|refine stZ ?_|refine aO ?_)));(try (any_goals (first|(with_reducible rfl)|(refine ah ?_;omega)))))
   rfl
 · (refine bX (.inr rfl) (by first|rfl|(simp (disch:=first|decide|omega|(simp only [List.length_cons,List.length_nil];omega)) only [bG,bK,bN,bO,go_sem,beq_self_eq_true,↓ao,↓aj hN,ak hN,reduceIte,reduceCtorEq,Nat.reduceAdd,Nat.reduceLT,Nat.reduceLeDiff,Nat.reduceEqDiff,Nat.reduceSub];rfl)) ?_)
   rw [show k = xs.length by omega]
theorem uW (g : Pa) (hg : PaOk g) (xs : List Int) (hx : bD xs g.prio.length) (hn : g.prio.length ≤ 256) : ap Try.prog 25 [paA g,.c (.I xs)] [] (fun _=>.c (.int .i64 (dr g.prio xs xs.length))):=by
 have hl:=cG hx (by omega)
 have h1:=iu g
 rw [bc hg] at h1
 have h2 : ap Try.prog 63 [paA g,.c (.I xs)] [] (fun _=>.c (.bool true)):=by
  have h:=pg xs g.prio.length (by omega) (by omega)
  rw [bc hx] at h
  (refine bf aI Try.func63 rfl rfl (by kernel_rfl) fun hp0 ν hX hN=>?_;simp only [bW,Nat.reduceAdd])
  (repeat' (first|(with_reducible first|(apply hK;clear hK K)|refine stZ ?_|refine aT rfl ?_|((first|apply ae|apply af);clear ae X af Y))|(with_reducible refine aW ?_;first|refine aU rfl ?_|refine aV rfl ?_)|(with_reducible refine bv ?_;first|refine bd rfl rfl rfl rfl ?_|refine bt rfl rfl rfl ?_|refine bI rfl rfl rfl rfl ?_)|((first|(with_reducible first|((first|refine aZ ?_|refine a8 ?_);intro K hK)|(refine aE ?_;intro X Y ae af)|refine aF ?_)|(with_reducible refine bv ?_;refine be rfl rfl fun X Y ae af=>?_));simp (disch:=first|decide|omega|(simp only [List.length_cons,List.length_nil];omega)) only [go_sem,↓aj hN,ak hN,reduceIte,reduceCtorEq,Nat.reduceAdd,Nat.reduceLT,Nat.reduceLeDiff,Nat.reduceEqDiff,Nat.reduceSub])|(with_reducible refine And.intro (fun h=>?_) (fun h=>?_) <;> try (exfalso;omega))|(with_reducible refine aY aI hN ?_)|(refine aB h ?_ rfl (fun _=>rfl) ?_)|(with_reducible first|exact aq|refine am ?_ ?_|exact bH _|refine aM ?_|exact aL _|exact bj _ _|refine bi ?_|exact aJ _)|exact aN hN rfl rfl|(refine bh hN rfl ?_;first|exact aC _|exact aD _)|exact aK rfl rfl rfl|(simp only [ba,List.map_nil])|(with_reducible refine bu ?_)|(with_reducible refine And.intro ?_ ?_)|(refine ah ?_;omega)|(exact aX hN (by decide))))
  (refine bX (.inr rfl) (by first|rfl|(simp (disch:=first|decide|omega|(simp only [List.length_cons,List.length_nil];omega)) only [bG,bK,bN,bO,go_sem,beq_self_eq_true,↓ao,↓aj hN,ak hN,reduceIte,reduceCtorEq,Nat.reduceAdd,Nat.reduceLT,Nat.reduceLeDiff,Nat.reduceEqDiff,Nat.reduceSub];rfl)) ?_)
  rfl
 have h3:=uV g xs hx.bnd (by omega)
 (refine bf aI Try.func25 rfl rfl (by kernel_rfl) fun hp0 ν hX hN=>?_;simp only [bW,Nat.reduceAdd])
 (repeat' (first|(with_reducible first|(apply hK;clear hK K)|refine stZ ?_|refine aT rfl ?_|((first|apply ae|apply af);clear ae X af Y))|(with_reducible refine aW ?_;first|refine aU rfl ?_|refine aV rfl ?_)|(with_reducible refine bv ?_;first|refine bd rfl rfl rfl rfl ?_|refine bt rfl rfl rfl ?_|refine bI rfl rfl rfl rfl ?_)|((first|(with_reducible first|((first|refine aZ ?_|refine a8 ?_);intro K hK)|(refine aE ?_;intro X Y ae af)|refine aF ?_)|(with_reducible refine bv ?_;refine be rfl rfl fun X Y ae af=>?_));simp (disch:=first|decide|omega|(simp only [List.length_cons,List.length_nil];omega)) only [go_sem,↓aj hN,ak hN,reduceIte,reduceCtorEq,Nat.reduceAdd,Nat.reduceLT,Nat.reduceLeDiff,Nat.reduceEqDiff,Nat.reduceSub])|(with_reducible refine And.intro (fun h=>?_) (fun h=>?_) <;> try (exfalso;omega))|(with_reducible refine aY aI hN ?_)|((first|refine aB (h1) ?_ rfl (fun _=>rfl) ?_|refine aB (h2) ?_ rfl (fun _=>rfl) ?_|refine aB (h3) ?_ rfl (fun _=>rfl) ?_);focus ((repeat' (first|(with_reducible first|exact aq|refine am ?_ ?_|exact bH _|refine aM ?_|exact aL _|exact bj _ _|refine bi ?_|exact aJ _)|exact aN hN rfl rfl|(refine bh hN rfl ?_;first|exact aC _|exact aD _)|exact aK rfl rfl rfl));done))|(with_reducible first|exact aq|refine am ?_ ?_|exact bH _|refine aM ?_|exact aL _|exact bj _ _|refine bi ?_|exact aJ _)|exact aN hN rfl rfl|(refine bh hN rfl ?_;first|exact aC _|exact aD _)|exact aK rfl rfl rfl|(simp only [ba,List.map_nil])|(with_reducible refine bu ?_)|(with_reducible refine And.intro ?_ ?_)|(refine ah ?_;omega)|(exact aX hN (by decide))))
 (refine bX (.inr rfl) (by first|rfl|(simp (disch:=first|decide|omega|(simp only [List.length_cons,List.length_nil];omega)) only [bG,bK,bN,bO,go_sem,beq_self_eq_true,↓ao,↓aj hN,ak hN,reduceIte,reduceCtorEq,Nat.reduceAdd,Nat.reduceLT,Nat.reduceLeDiff,Nat.reduceEqDiff,Nat.reduceSub];rfl)) ?_)
 all_goals rfl
theorem tt (a b : List Int) (ha : bD a 256) (hb : bD b 256) : ap Try.prog 31 [.c (.I a),.c (.I b)] [.arr 2 .yes (.I (dB (fun x=>x ∈ b) a a.length))] (fun ns=>.sl (ns.getD 0 0)):=by
 have hla:=cG ha (by omega)
 have hok:=iC a b
 rw [bc ⟨ha,hb⟩] at hok
 (refine bf aI Try.func31 rfl rfl (by kernel_rfl) fun hp0 ν hX hN=>?_;simp only [bW,Nat.reduceAdd])
 (repeat' (first|(with_reducible first|(apply hK;clear hK K)|refine stZ ?_|refine aT rfl ?_|((first|apply ae|apply af);clear ae X af Y))|(with_reducible refine aW ?_;first|refine aU rfl ?_|refine aV rfl ?_)|((with_reducible first|((first|refine aZ ?_|refine a8 ?_);intro K hK)|(refine aE ?_;intro X Y ae af)|refine aF ?_);simp (disch:=first|decide|omega|(simp only [List.length_cons,List.length_nil];omega)) only [go_sem,↓aj hN,ak hN,reduceIte,reduceCtorEq,Nat.reduceAdd,Nat.reduceLT,Nat.reduceLeDiff,Nat.reduceEqDiff,Nat.reduceSub])|(with_reducible refine And.intro (fun h=>?_) (fun h=>?_) <;> try (exfalso;omega))|(with_reducible refine aY aI hN ?_)|(refine aB hok ?_ rfl (fun _=>rfl) ?_)|(with_reducible first|exact aq|refine am ?_ ?_|exact bH _|refine aM ?_|exact aL _|exact bj _ _|refine bi ?_|exact aJ _)|exact aN hN rfl rfl|(refine bh hN rfl ?_;first|exact aC _|exact aD _)|exact aK rfl rfl rfl|(simp only [ba,List.map_nil])|(with_reducible refine bu ?_)|(with_reducible refine And.intro ?_ ?_)|(refine ah ?_;omega)|(exact aX hN (by decide))))
 (refine bT (fun (k : Nat)=>(tmL [(6,.c (.int .i64 k)),(5,.sl (ν 0)),(0,.c (.I a)),(1,.c (.I b))],hpL hp0 ν [.arr 2 .yes (.I (dB (fun x=>x ∈ b) a k))])) (fun (k : Nat)=>k ≤ a.length) (fun (k : Nat)=>a.length - k) ⟨0,?_,bB hX hN [] ?_ ?_⟩ ?_;(repeat' (first|(with_reducible first|exact clZ|refine bw ?_ ?_|refine bz ?_ ?_|rfl|refine suZ ?_)|refine bA rfl ?_ ?_|exact aP hN _ rfl rfl rfl|exact aQ hN _ rfl rfl rfl|exact ax hN _ rfl rfl rfl (Or.inr rfl)|(refine aR hN _ rfl rfl (by first|exact Or.inr rfl|exact Or.inl rfl) ?_;first|exact aC _|exact aD _)|refine ay hN rfl ?_|refine az hN rfl rfl ?_|exact au hN _ rfl rfl|exact aA hN rfl rfl rfl rfl|(with_reducible first|refine stZ ?_|refine aO ?_)));(try (any_goals (first|(with_reducible rfl)|(refine ah ?_;omega)))))
 · rfl
 intro k hk
 have hfl:=fg (fun x=>x ∈ b) a k
 (repeat' (first|(with_reducible first|(apply hK;clear hK K)|refine stZ ?_|refine aT rfl ?_|((first|apply ae|apply af);clear ae X af Y))|(with_reducible refine aW ?_;first|refine aU rfl ?_|refine aV rfl ?_)|((with_reducible first|((first|refine aZ ?_|refine a8 ?_);intro K hK)|(refine aE ?_;intro X Y ae af)|refine aF ?_);simp (disch:=first|decide|omega|(simp only [List.length_cons,List.length_nil];omega)) only [go_sem,↓aj hN,ak hN,reduceIte,reduceCtorEq,Nat.reduceAdd,Nat.reduceLT,Nat.reduceLeDiff,Nat.reduceEqDiff,Nat.reduceSub])|(with_reducible refine And.intro (fun h=>?_) (fun h=>?_) <;> try (exfalso;omega))|(with_reducible refine aY aI hN ?_)|(refine aB (pG ?_ ?_) ?_ rfl (fun _=>rfl) ?_)|(with_reducible first|exact aq|refine am ?_ ?_|exact bH _|refine aM ?_|exact aL _|exact bj _ _|refine bi ?_|exact aJ _)|exact aN hN rfl rfl|(refine bh hN rfl ?_;first|exact aC _|exact aD _)|exact aK rfl rfl rfl|(simp only [ba,List.map_nil])|(with_reducible refine bu ?_)|(with_reducible refine And.intro ?_ ?_)|(refine ah ?_;omega)|(exact aX hN (by decide))))
 · (refine ⟨k + 1,⟨?_,?_⟩,bB hX hN [(0,2)] ?_ ?_⟩;(try any_goals dsimp only);(repeat' (first|(with_reducible first|exact clZ|refine bw ?_ ?_|refine bz ?_ ?_|rfl|refine suZ ?_)|refine bA rfl ?_ ?_|exact aP hN _ rfl rfl rfl|exact aQ hN _ rfl rfl rfl|exact ax hN _ rfl rfl rfl (Or.inr rfl)|(refine aR hN _ rfl rfl (by first|exact Or.inr rfl|exact Or.inl rfl) ?_;first|exact aC _|exact aD _)|refine ay hN rfl ?_|refine az hN rfl rfl ?_|exact au hN _ rfl rfl|exact aA hN rfl rfl rfl rfl|(with_reducible first|refine stZ ?_|refine aO ?_)));(try (any_goals (first|(with_reducible rfl)|(refine ah ?_;omega)))))
   exact c9 (p:=fun x=>x ∈ b) (by assumption)
 · (refine ⟨k + 1,⟨?_,?_⟩,bB hX hN [] ?_ ?_⟩;(try any_goals dsimp only);(repeat' (first|(with_reducible first|exact clZ|refine bw ?_ ?_|refine bz ?_ ?_|rfl|refine suZ ?_)|refine bA rfl ?_ ?_|exact aP hN _ rfl rfl rfl|exact aQ hN _ rfl rfl rfl|exact ax hN _ rfl rfl rfl (Or.inr rfl)|(refine aR hN _ rfl rfl (by first|exact Or.inr rfl|exact Or.inl rfl) ?_;first|exact aC _|exact aD _)|refine ay hN rfl ?_|refine az hN rfl rfl ?_|exact au hN _ rfl rfl|exact aA hN rfl rfl rfl rfl|(with_reducible first|refine stZ ?_|refine aO ?_)));(try (any_goals (first|(with_reducible rfl)|(refine ah ?_;omega)))))
   exact dl (p:=fun x=>x ∈ b) (by assumption)
 · (refine cR hN (i:=0) (.inr rfl) (by first|rfl|(simp (disch:=first|decide|omega|(simp only [List.length_cons,List.length_nil];omega)) only [bG,bK,bN,bO,go_sem,beq_self_eq_true,↓ao,↓aj hN,ak hN,reduceIte,reduceCtorEq,Nat.reduceAdd,Nat.reduceLT,Nat.reduceLeDiff,Nat.reduceEqDiff,Nat.reduceSub];rfl)) rfl ?_ rfl)
   rw [show k = a.length by omega]
end Go.Proofs.Ythjamlponejffaa
