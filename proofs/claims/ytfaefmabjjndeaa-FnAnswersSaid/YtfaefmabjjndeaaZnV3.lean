/-
  FnAnswers, walked.
-/
import Derived.Test.YtfaefmabjjndeaaZnShelf2
import Derived.Test.YtfaefmabjjndeaaZnFc
import Derived.Test.YtfaefmabjjndeaaZnBs
import Derived.Test.YtfaefmabjjndeaaZnCe
import Derived.Test.YtfaefmabjjndeaaZnR6
import Derived.Test.YtfaefmabjjndeaaZnR4
import Derived.Test.YtfaefmabjjndeaaZnE23
import Derived.Test.YtfaefmabjjndeaaZnD8
import Derived.Test.YtfaefmabjjndeaaZnD5
namespace Go.Proofs.Ytfaefmabjjndeaa
set_option linter.unusedVariables false
set_option linter.unusedSimpArgs false
open Go.RowKit
theorem td {φ : Nat → Loc} {hp : Hp} {w : World} {loc : Loc} {nn : Fl} {xs : List Int} (h : gp φ hp w loc (.arr 2 nn (.I xs))) (hh : nn.hd = true) {lo : Nat} (hlo : ∀ b,loc.blk = some b → lo ≤ b) : ch lo w.heap.size w loc.val xs :=
 sB h hh rfl rfl hlo (by simp) fun i v hi hr=>by
  have hi' : i < xs.length:=hi
  cases hr with
  | sl hv' => simp [C.view] at hv'
  | int => simp [gi, List.getD_eq_getElem?_getD, List.getElem?_eq_getElem hi']
theorem uE {φ : Nat → Loc} {hp : Hp} {w : World} {ν : Nat} {v : Value} {T : TypeId} {nn : Fl} {c : C} (h : AVC φ hp w (.sl ν) v) (he : hp ν = some (.arr T nn c)) : v = (φ ν).val:=by
 cases h with
 | sl h hk => rfl
 | sld h hk v hv => rw [he] at h; injection h with h; subst h; simp [Ent.kind] at hk
theorem rP (l : Loc) : ∃ s n c,l.val = .slice s n c:=by cases l <;> exact ⟨_,_,_,rfl⟩
theorem tg (l : Loc) : blk l.val = l.blk:=by cases l <;> rfl
theorem rQ {φ φ' : Nat → Loc} {hp hp' : Hp} {w w' : World} {loc : Loc} {nn : Fl} {xs ys : List Int} {lo hi : Nat} (old : gp φ hp w loc (.arr 2 nn (.I xs))) (hl : ys.length = xs.length) (h : ch lo hi w' loc.val ys) : gp φ' hp' w' loc (.arr 2 nn (.I ys)):=by
 obtain ⟨V,hv,hnn,⟨rfl,h1,h2⟩|⟨g,o,cp,cur,rfl,h1,h2,h3,h4,h5,h6⟩⟩:=old
 · simp only [C.view,Option.some.injEq] at hv
   subst hv
   exact ⟨_,rfl,rfl,.inl ⟨rfl,by rw [← h1];exact hl,h2⟩⟩
 · simp only [C.view,Option.some.injEq] at hv
   subst hv
   rcases h with ⟨e,_⟩|⟨g',cap,cur',e,k1,k2,k3,k4,k5,k6,k7⟩
   · cases e
   injection e with e1 e2 e3
   injection e1 with e1
   injection e1 with e1 e4
   subst e1 e3 e4
   rw [List.length_map] at k4 k7
   refine ⟨_,rfl,rfl,.inr ⟨g,0,cp,cur',by rw [hl],k3,k4,h3,?_,fun _=>⟨rfl,?_⟩,fun i hi j hj=>?_⟩⟩
   · show 0 + cp * 1 ≤ cur'.size
     omega
   · show cp * 1 = cur'.size
     omega
   · have hi' : i < ys.length:=hi
     have hj' : j < 1:=hj
     obtain rfl : j = 0:=by omega
     refine ⟨.int .i64 (gi ys i),?_,.int _ _⟩
     show cur'[0 + (i * 1 + 0)]? = _
     rw [show 0 + (i * 1 + 0) = i by omega]
     have e : (cur'.toList.take ys.length)[i]? = (ys.map (Value.int .i64))[i]?:=by rw [k7]
     rw [List.getElem?_take,if_pos hi',List.getElem?_map,List.getElem?_eq_getElem hi'] at e
     rw [← Array.getElem?_toList,e]
     simp [dB hi']
theorem th (xs : List Int) (hl : xs.length ≤ 1048576) (nn : Fl) (hh : nn.hd = true) : dG Try.prog 161 (fun ν=>[.sl (ν 0)]) [.arr 2 nn (.I xs)] [.arr 2 nn (.I (srt xs))] [] (fun _=>.any):=by
 refine ⟨⟨_,Try.func161,rfl,rfl⟩,fun φ0 hp0 ν lo w vs hX hN H hvl hv=>?_⟩
 obtain ⟨u,rfl⟩ : ∃ u,vs = [u]:=by
  match vs,hvl with
  | [u], _ => exact ⟨u, rfl⟩
 have l0 : hpL hp0 ν [Ent.arr 2 nn (.I xs)] (ν 0) = some (.arr 2 nn (.I xs)):=by rw [ak hN];rfl
 have hv0 : AVC φ0 (hpL hp0 ν [Ent.arr 2 nn (.I xs)]) w (.sl (ν 0)) u:=hv 0 (by show 0 < 1;omega)
 obtain rfl:=uE hv0 l0
 have hent:=H.ent (ν 0) _ l0
 have hlo : ∀ b,(φ0 (ν 0)).blk = some b → lo ≤ b:=fun b hb=>H.lo (ν 0) b ⟨_,l0,(by show 1 < 2;decide)⟩ hb
 have o0:=td hent hh hlo
 obtain ⟨sa,n,c,q0⟩:=rP (φ0 (ν 0))
 have hb0:=tg (φ0 (ν 0))
 have hback:=fun w' (h : ch lo w.heap.size w' (φ0 (ν 0)).val (srt xs))=>rQ (φ':=φ0) (hp':=upd (bB (hpL hp0 ν [Ent.arr 2 nn (.I xs)]) (cN [])) (ν 0) (some (.arr 2 nn (.I (srt xs))))) hent (by unfold srt;rw [List.length_mergeSort]) h
 rw [q0] at o0 hb0 hback ⊢
 have hn:=o0.len
 refine (qO o0 (by omega)).mono fun e w' ⟨he,ho,hg⟩=>⟨_,he,fun νs h1 h2 h3=>?_⟩
 obtain rfl : νs = []:=List.eq_nil_of_length_eq_zero h1
 rw [hb0] at hg
 obtain ⟨k1,k2⟩:=H.write (w':=w') (fz:=[]) (e':=.arr 2 nn (.I (srt xs))) l0 rfl (by simp [Ent.kind]) (fun x hx=>by cases hx) (fun hx=>by cases hx)
  ⟨hg.os,hg.tape,hg.output,hg.size,fun k hk=>hg.block k (Nat.lt_of_lt_of_le hk H.l0) fun e=>by have:=hlo k e.symm;omega⟩ hg.size (fun b hb hne=>hg.block b hb fun e=>hne e.symm) fun _=>hback w' ho
 exact ⟨φ0,k1,k2,.any _⟩
end Go.Proofs.Ytfaefmabjjndeaa
namespace Go.Proofs.Ytfaefmabjjndeaa
set_option linter.unusedVariables false
set_option linter.unusedSimpArgs false
open Go.RowKit
attribute [local irreducible] ax cJ Aw Le
theorem iW {p : Int → Prop} {xs : List Int} (hx : xs.Pairwise (· < ·)) : ∀ k,k ≤ xs.length → (fM p xs k).Pairwise (· < ·)
 | 0, _ => List.Pairwise.nil
 | k + 1, hk => by
   by_cases h : p (gi xs k)
   · rw [fv h,List.pairwise_append]
     refine ⟨iW hx k (by omega),by simp,fun x hx' y hy=>?_⟩
     obtain ⟨j,h1,h2,_⟩:=(iP k (by omega)).1 hx'
     rw [List.mem_singleton.1 hy,← h2]
     have h3:=List.pairwise_iff_getElem.1 hx j k (by omega) (by omega) h1
     rwa [← dB (by omega : j < xs.length),← dB (by omega : k < xs.length)] at h3
   · rw [fN h];exact iW hx k (by omega)
theorem kP {p : Int → Prop} {xs : List Int} {x : Int} : x ∈ fM p xs xs.length ↔ x ∈ xs ∧ p x:=by
 rw [iP _ (Nat.le_refl _)]
 constructor
 · rintro ⟨j,h1,h2,h3⟩;exact ⟨h2 ▸ du h1,h3⟩
 · rintro ⟨h1,h2⟩
   obtain ⟨j,h3,h4⟩:=c4 h1
   exact ⟨j,h3,h4,h2⟩
noncomputable def fJ (A B : List Int) : List Int:=srt (A ++ fM (fun x=>¬ x ∈ A) B B.length)
theorem pL {A B : List Int} {x : Int} : x ∈ fJ A B ↔ x ∈ A ∨ x ∈ B:=by
 unfold fJ
 rw [sD,List.mem_append,kP]
 by_cases h : x ∈ A
 · simp [h]
 · simp [h]
theorem pM {A B : List Int} (hA : A.Pairwise (· < ·)) (hB : B.Pairwise (· < ·)) : (fJ A B).Pairwise (· < ·):=by
 have nd : ∀ {xs : List Int},xs.Pairwise (· < ·) → xs.Nodup:=fun h=>h.imp fun h e=>by omega
 have h1 : (A ++ fM (fun x=>¬ x ∈ A) B B.length).Nodup:=by
  rw [List.nodup_append]
  exact ⟨nd hA,nd (iW hB _ (Nat.le_refl _)),fun x hx y hy e=>(kP.1 hy).2 (e ▸ hx)⟩
 have h2 : (fJ A B).Nodup:=(List.mergeSort_perm _ _).nodup_iff.2 h1
 have h3 : (fJ A B).Pairwise (· ≤ ·):=un _
 exact (h3.and h2).imp fun h=>by omega
theorem pN (A B : List Int) : (fJ A B).length ≤ A.length + B.length:=by
 have:=gn (fun x=>¬ x ∈ A) B B.length
 unfold fJ srt
 rw [List.length_mergeSort,List.length_append]
 omega
theorem pO (a b : List Int) (hi : a.Pairwise (· < ·)) (ha : a.length ≤ 256) (hb : b.length ≤ 256) : ax Try.prog 101 [.c (.I a),.c (.I b)] [.arr 2 .yes (.I (fJ a b))] (fun ns=>.sl (ns.getD 0 0)):=by
 have hfl:=gn (fun x=>¬ x ∈ a) b b.length
 have hls:=pj b a (by omega) hi (by omega)
 have hso:=th (a ++ fM (fun x=>¬ x ∈ a) b b.length) (by rw [List.length_append];omega) .yes rfl
 change dG _ _ _ _ [.arr _ _ (.I (fJ a b))] _ _ at hso
 generalize fM (fun x=>¬ x ∈ a) b b.length = F at *
 (refine bV aP Try.func101 rfl rfl (by kernel_rfl) fun hp0 ν hX hN=>?_;simp only [cK,Nat.reduceAdd])
 (repeat' (first|(with_reducible first|(refine hK _ _ ?_;clear hK K)|(refine aa _ ?_;clear aa K)|refine bj ?_|refine cc ?_|refine bc ?_|refine aq ?_|refine ap ?_|refine ce ?_|refine aJ ?_|refine bd ?_|refine cf ?_|refine be ?_|refine bf rfl ?_|refine bm ?_|refine bg ?_|refine cg ?_|refine bh ?_|refine aI ?_|refine n_k ?_|refine bi ?_|(refine ae ?_;clear ae X af Y)|(refine af ?_;clear ae X af Y))|(with_reducible refine br ?_;first|refine bo rfl ?_|refine bp rfl ?_)|(with_reducible refine bz ?_;first|refine au rfl rfl rfl rfl ?_|refine aL rfl rfl rfl ?_|refine bv rfl rfl rfl rfl ?_)|((first|(with_reducible first|refine bt rfl rfl fun K hK=>?_|refine bu rfl rfl fun K aa=>?_|refine aK fun X Y ae af=>?_|refine aM ?_));simp (disch:=first|decide|omega|(simp only [List.length_cons,List.length_nil];omega)) only [go_sem,beq_self_eq_true,↓aj,↓ak hN,am hN,reduceIte,reduceCtorEq,Nat.reduceAdd,Nat.reduceLT,Nat.reduceLeDiff,Nat.reduceEqDiff,Nat.reduceSub])|(with_reducible refine And.intro (fun h=>?_) (fun h=>?_) <;> try (exfalso;omega))|(with_reducible refine bn aP hN rfl ?_ ?_;kernel_rfl)|(refine bK (hls) ?_ rfl (fun _=>rfl) ?_;focus ((repeat' (first|(with_reducible first|exact aG|refine aF ?_ ?_|exact cC _|refine bC ?_|exact ba _|exact b9 _ _|refine b8 ?_|exact aZ _)|exact bD hN rfl rfl|(refine b7 hN rfl ?_;first|exact aN _|exact aO _)|exact a8 rfl rfl rfl));done))|(refine dI (hso) hN 3 rfl rfl rfl rfl rfl ?_ ?_ ?_ ?_;(focus (simp [aY,AV.names];done));(focus (intro ν' hν;(repeat' (first|exact ArgMs.nil|refine ArgMs.cons ?_ ?_|exact gB hν|exact gC hν|exact jg _|exact iN (by first|exact ba _|exact aZ _|exact a8 rfl rfl rfl) rfl|(refine gD hN rfl ?_ (by decide);first|exact aN _|exact aO _)|refine eI ?_));done));(focus (first|exact Or.inr ⟨rfl,rfl,fun _=>rfl⟩|exact Or.inl (by simp [aY,AV.names]))))|(with_reducible first|exact aG|refine aF ?_ ?_|exact cC _|refine bC ?_|exact ba _|exact b9 _ _|refine b8 ?_|exact aZ _)|exact bD hN rfl rfl|(refine b7 hN rfl ?_;first|exact aN _|exact aO _)|exact a8 rfl rfl rfl|(simp only [bB,List.map_nil])|(with_reducible refine cm ?_)|(simp (disch:=first|decide|omega|(simp only [List.length_cons,List.length_nil];omega)) only [bB,List.map_cons,List.map_nil,am hN,List.set_cons_zero,List.set_cons_succ])|(with_reducible refine And.intro ?_ ?_)|(refine ah ?_;omega)|(exact bw hN (by decide))))
 (refine dj hN (i:=3) (.inr rfl) (by first|rfl|(simp (disch:=first|decide|omega|(simp only [List.length_cons,List.length_nil];omega)) only [cj,cn,cu,cy,go_sem,beq_self_eq_true,↓aj,↓ak hN,am hN,reduceIte,reduceCtorEq,Nat.reduceAdd,Nat.reduceLT,Nat.reduceLeDiff,Nat.reduceEqDiff,Nat.reduceSub];rfl)) rfl ?_ rfl)
 all_goals rfl
theorem pP (a b : List Int) (ha : cz a 256) (hb : cz b 256) : ax Try.prog 31 [.c (.I a),.c (.I b)] [.arr 2 .yes (.I (fJ a b))] (fun ns=>.sl (ns.getD 0 0)):=by
 have hla:=dK ha (by omega)
 have hlb:=dK hb (by omega)
 have h1:=ou a 256
 have h2:=ou b 256
 rw [bW ha] at h1
 rw [bW hb] at h2
 have h3:=pO a b (lC ha) (by omega) (by omega)
 (refine bV aP Try.func31 rfl rfl (by kernel_rfl) fun hp0 ν hX hN=>?_;simp only [cK,Nat.reduceAdd])
 (repeat' (first|(with_reducible first|(refine hK _ _ ?_;clear hK K)|(refine aa _ ?_;clear aa K)|refine bj ?_|refine cc ?_|refine bc ?_|refine aq ?_|refine ap ?_|refine ce ?_|refine aJ ?_|refine bd ?_|refine cf ?_|refine be ?_|refine bf rfl ?_|refine bm ?_|refine bg ?_|refine cg ?_|refine bh ?_|refine aI ?_|refine n_k ?_|refine bi ?_|(refine ae ?_;clear ae X af Y)|(refine af ?_;clear ae X af Y))|(with_reducible refine br ?_;first|refine bo rfl ?_|refine bp rfl ?_)|(with_reducible refine bz ?_;first|refine au rfl rfl rfl rfl ?_|refine aL rfl rfl rfl ?_|refine bv rfl rfl rfl rfl ?_)|((first|(with_reducible first|refine bt rfl rfl fun K hK=>?_|refine bu rfl rfl fun K aa=>?_|refine aK fun X Y ae af=>?_|refine aM ?_)|(with_reducible refine bz ?_;refine bJ rfl rfl fun X Y ae af=>?_));simp (disch:=first|decide|omega|(simp only [List.length_cons,List.length_nil];omega)) only [go_sem,beq_self_eq_true,↓aj,↓ak hN,am hN,reduceIte,reduceCtorEq,Nat.reduceAdd,Nat.reduceLT,Nat.reduceLeDiff,Nat.reduceEqDiff,Nat.reduceSub])|(with_reducible refine And.intro (fun h=>?_) (fun h=>?_) <;> try (exfalso;omega))|(with_reducible refine bn aP hN rfl ?_ ?_;kernel_rfl)|((first|refine bK (h1) ?_ rfl (fun _=>rfl) ?_|refine bK (h3) ?_ rfl (fun _=>rfl) ?_);focus ((repeat' (first|(with_reducible first|exact aG|refine aF ?_ ?_|exact cC _|refine bC ?_|exact ba _|exact b9 _ _|refine b8 ?_|exact aZ _)|exact bD hN rfl rfl|(refine b7 hN rfl ?_;first|exact aN _|exact aO _)|exact a8 rfl rfl rfl));done))|(refine bK (h2) ?_ rfl (fun _=>rfl) ?_;focus ((repeat' (first|(with_reducible first|exact aG|refine aF ?_ ?_|exact cC _|refine bC ?_|exact ba _|exact b9 _ _|refine b8 ?_|exact aZ _)|exact bD hN rfl rfl|(refine b7 hN rfl ?_;first|exact aN _|exact aO _)|exact a8 rfl rfl rfl));done))|(with_reducible first|exact aG|refine aF ?_ ?_|exact cC _|refine bC ?_|exact ba _|exact b9 _ _|refine b8 ?_|exact aZ _)|exact bD hN rfl rfl|(refine b7 hN rfl ?_;first|exact aN _|exact aO _)|exact a8 rfl rfl rfl|(simp only [bB,List.map_nil])|(with_reducible refine cm ?_)|(with_reducible refine And.intro ?_ ?_)|(refine ah ?_;omega)|(exact bw hN (by decide))))
 (refine dj hN (i:=0) (.inr rfl) (by first|rfl|(simp (disch:=first|decide|omega|(simp only [List.length_cons,List.length_nil];omega)) only [cj,cn,cu,cy,go_sem,beq_self_eq_true,↓aj,↓ak hN,am hN,reduceIte,reduceCtorEq,Nat.reduceAdd,Nat.reduceLT,Nat.reduceLeDiff,Nat.reduceEqDiff,Nat.reduceSub];rfl)) rfl ?_ rfl)
 all_goals rfl
end Go.Proofs.Ytfaefmabjjndeaa
namespace Go.Proofs.Ytfaefmabjjndeaa
set_option linter.unusedVariables false
set_option linter.unusedSimpArgs false
open Go.RowKit
attribute [local irreducible] ax cJ Aw Le
theorem rR {W : List Int} {n : Nat} (hn : W.length = n) (h : ∀ v,v < n → gi W v = 0 ∨ gi W v = 1) : fJ (atL W 0) (atL W 1) = tab n fun v=>v :=
 nC _ _ (pM (lC (fH W 0)) (lC (fH W 1))) (by
  rw [List.pairwise_iff_getElem]
  intro i j hi hj hij
  rw [cY] at hi hj
  rw [← dB,← dB,dC _ hi,dC _ hj]
  omega) fun x=>by
  rw [pL,ge,ge,mj]
  constructor
  · rintro (⟨v,h1,rfl,_⟩|⟨v,h1,rfl,_⟩) <;> exact ⟨v,by rw [cY];omega,dC _ (by omega)⟩
  · rintro ⟨v,h1,h2⟩
    rw [cY] at h1
    rw [dC _ h1] at h2
    rcases h v h1 with e|e
    · exact .inl ⟨v,by omega,h2.symm,e⟩
    · exact .inr ⟨v,by omega,h2.symm,e⟩
theorem rS {g : Pa} {v : Nat} (hv : v < g.prio.length) (P : List Int) : ¬ AOk g ((aX g).set v (1 - gi (aX g) v)) P:=fun h=>by
 have e:=ta h
 have hl:=dw g
 have h1:=dT (xs:=aX g) (k:=v) (j:=v) (x:=1 - gi (aX g) v) (by omega)
 rw [e,if_pos rfl] at h1
 omega
set_option maxHeartbeats 4000000 in
theorem mN (bs : List Int) (hb : ∀ j,j < bs.length → 0 ≤ gi bs j ∧ gi bs j ≤ 255) (hlb : bs.length ≤ 9223372036854775807) : ax Try.prog 5 [.c (.Y bs)] [] (fun _=>.c (.bool true)):=by
 have hbig:=vM bs hlb
 by_cases hl : bs.length ≤ 4096
 · rw [show decide ((bs.length : Int) > 4096) = false by rw [decide_eq_false_iff_not];omega] at hbig
   have hroll:=uA bs hl hb 607
   generalize tu bs hl hb 607 = d at hroll
   have hgame:=rO d 8 (by omega)
   obtain ⟨hg,hlen,_⟩:=rx (d:=d) (most:=8) (pm:=5) (by omega) (by omega)
   generalize hG : gI d 8 5 = G at *
   obtain ⟨g,d1⟩:=G
   simp only at hgame hg hlen
   have hA:=tc hg
   have hWl:=dw g
   have hPl:=rN hg
   have h3:=pG g hg
   have h5:=ja g (aX g) (pK g)
   rw [bW hA] at h5
   have hln:=hg.len
   have hle:=hg.ar.le
   have hpos:=hg.ar.pos
   have hbl:=gd d1 (g.prio.length : Int) (by omega)
   have hv1:=d1.bnd (n:=(g.prio.length : Int)) (by omega)
   obtain ⟨v,hv⟩ : ∃ v : Nat,d1.val (g.prio.length : Int) = v:=⟨(d1.val (g.prio.length : Int)).toNat,by omega⟩
   rw [hv] at hbl hv1
   have hvn : v < g.prio.length:=by omega
   generalize d1.nxt = d2 at *
   have hr0:=gH (aX g) (pK g) 0 (by omega)
   have hr1:=gH (aX g) (pK g) 1 (by omega)
   have hs:=fun i=>fH (aX g) i
   have hbo:=pP (atL (aX g) 0) (atL (aX g) 1) (fun k hk=>by have:=hs 0 k hk;omega) (fun k hk=>by have:=hs 1 k hk;omega)
   have hlk:=nT (fJ (atL (aX g) 0) (atL (aX g) 1)) (tab g.prio.length fun v=>v) (by
    have:=pN (atL (aX g) 0) (atL (aX g) 1)
    have:=dK (hs 0) (by omega)
    have:=dK (hs 1) (by omega)
    omega)
   rw [bW (rR hWl fun v hv=>gf hv)] at hlk
   have hal:=rz g.prio.length (by omega)
   have hrow:=(hg.ar.vert v (by omega)).2.2
   have hnx:=hg.ar.len
   have hbl3:=gd d2 ((gr g.ar.nxt v).length : Int) (by omega)
   have hs1:=d2.bnd (n:=((gr g.ar.nxt v).length : Int)) (by omega)
   have hbad : ∀ P,ax Try.prog 20 [paA g,.agg [.c (.I ((aX g).set v (1 - gi (aX g) v))),.c (.I P)]] [] (fun _=>.c (.bool false)):=fun P=>by
    have:=ja g ((aX g).set v (1 - gi (aX g) v)) P
    rwa [aH (rS hvn P)] at this
   have hW01:=gf hvn
   unfold pK at *
   generalize ep g (aX g) (noP g.prio.length) g.prio.length = P at *
   generalize hB : fJ (atL (aX g) 0) (atL (aX g) 1) = B at *
   generalize aX g = W at *
   have hb1:=hbad (P.set v (gi (gr g.ar.nxt v) (d2.val ((gr g.ar.nxt v).length : Int)).toNat))
   have hb2:=hbad (P.set v (-1))
   clear hbad
   have hsl : (W.set v (1 - gi W v)).length = W.length:=List.length_set
   (refine bV aP Try.func5 rfl rfl (by kernel_rfl) fun hp0 ν hX hN=>?_;simp only [cK,Nat.reduceAdd])
   (repeat' (first|(with_reducible first|(refine hK _ _ ?_;clear hK K)|(refine aa _ ?_;clear aa K)|(refine ab _ _ _ ?_;clear ab K)|(refine ac _ _ ?_;clear ac K)|refine bj ?_|refine cc ?_|refine bc ?_|refine aq ?_|refine ap ?_|refine ce ?_|refine aJ ?_|refine bd ?_|refine cf ?_|refine be ?_|refine bf rfl ?_|refine bm ?_|refine bg ?_|refine cg ?_|refine bh ?_|refine aI ?_|refine n_k ?_|refine bi ?_|(refine ae ?_;clear ae X af Y)|(refine af ?_;clear ae X af Y))|(with_reducible refine br ?_;first|refine bo rfl ?_|refine bp rfl ?_)|(with_reducible refine bz ?_;first|refine au rfl rfl rfl rfl ?_|refine aL rfl rfl rfl ?_|refine bv rfl rfl rfl rfl ?_)|(with_reducible refine cD ?_;first|refine bY rfl rfl rfl rfl ?_|refine ck rfl rfl rfl ?_|refine cG rfl rfl rfl rfl ?_|refine cH hN (by apply Exists.intro;apply And.intro;(repeat' (first|apply FtI.nil|apply FI.nil|apply FI.cons|apply FtI.cons));kernel_rfl) ?_)|((first|(with_reducible first|refine bt rfl rfl fun K hK=>?_|refine cE rfl rfl fun K ab=>?_|refine bu rfl rfl fun K aa=>?_|refine cF rfl rfl fun K ac=>?_|refine aK fun X Y ae af=>?_|refine aM ?_)|(with_reducible refine bz ?_;refine bJ rfl rfl fun X Y ae af=>?_)|(with_reducible refine cD ?_;refine cL rfl rfl fun X Y ae af=>?_));simp (disch:=first|decide|omega|(simp only [List.length_cons,List.length_nil];omega)) only [go_sem,beq_self_eq_true,↓aj,↓ak hN,am hN,reduceIte,reduceCtorEq,Nat.reduceAdd,Nat.reduceLT,Nat.reduceLeDiff,Nat.reduceEqDiff,Nat.reduceSub])|(with_reducible refine And.intro (fun h=>?_) (fun h=>?_) <;> try (exfalso;omega))|(with_reducible refine bn aP hN rfl ?_ ?_;kernel_rfl)|(with_reducible refine bZ aP hN rfl ?_ ?_ ?_ ?_;(kernel_rfl);(kernel_rfl);(kernel_rfl))|(refine bK hbig ?_ rfl (fun _=>rfl) ?_)|(refine qN (hroll) rfl (fun ν'=>?_) ?_ ?_;(focus ((repeat' (first|exact ArgMs.nil|refine ArgMs.cons ?_ ?_|exact jg _|exact iN (by first|exact ba _|exact aZ _|exact a8 rfl rfl rfl) rfl|refine eI ?_));done));(focus (first|exact Or.inl (by simp [aY,AV.names]))))|(refine dI (hgame) hN 0 rfl rfl rfl rfl rfl ?_ ?_ ?_ ?_;(focus (simp [aY,AV.names];done));(focus (intro ν' hν;(repeat' (first|exact ArgMs.nil|refine ArgMs.cons ?_ ?_|exact gB hν|exact gC hν|exact jg _|exact iN (by first|exact ba _|exact aZ _|exact a8 rfl rfl rfl) rfl|(refine gD hN rfl ?_ (by decide);first|exact aN _|exact aO _)|refine eI ?_));done));(focus (first|exact Or.inr ⟨rfl,rfl,fun _=>rfl⟩|exact Or.inl (by simp [aY,AV.names]))))|(refine bK (h3) ?_ rfl (fun _=>rfl) ?_;focus ((repeat' (first|(with_reducible first|exact aG|refine aF ?_ ?_|exact cC _|refine bC ?_|exact ba _|exact b9 _ _|refine b8 ?_|exact aZ _)|exact bD hN rfl rfl|(refine b7 hN rfl ?_;first|exact aN _|exact aO _)|exact a8 rfl rfl rfl));done))|(with_reducible first|exact aG|refine aF ?_ ?_|exact cC _|refine bC ?_|exact ba _|exact b9 _ _|refine b8 ?_|exact aZ _)|exact bD hN rfl rfl|(refine b7 hN rfl ?_;first|exact aN _|exact aO _)|exact a8 rfl rfl rfl|(simp only [bB,List.map_nil])|(with_reducible refine cm ?_)|(simp (disch:=first|decide|omega|(simp only [List.length_cons,List.length_nil];omega)) only [bB,List.map_cons,List.map_nil,am hN,List.set_cons_zero,List.set_cons_succ])|(with_reducible refine And.intro ?_ ?_)|(refine ah ?_;omega)|(exact bw hN (by decide))))
   rw [hWl]
   (repeat' (first|(with_reducible first|(refine hK _ _ ?_;clear hK K)|(refine aa _ ?_;clear aa K)|(refine ab _ _ _ ?_;clear ab K)|(refine ac _ _ ?_;clear ac K)|refine bj ?_|refine cc ?_|refine bc ?_|refine aq ?_|refine ap ?_|refine ce ?_|refine aJ ?_|refine bd ?_|refine cf ?_|refine be ?_|refine bf rfl ?_|refine bm ?_|refine bg ?_|refine cg ?_|refine bh ?_|refine aI ?_|refine n_k ?_|refine bi ?_|(refine ae ?_;clear ae X af Y)|(refine af ?_;clear ae X af Y))|(with_reducible refine br ?_;first|refine bo rfl ?_|refine bp rfl ?_)|(with_reducible refine bz ?_;first|refine au rfl rfl rfl rfl ?_|refine aL rfl rfl rfl ?_|refine bv rfl rfl rfl rfl ?_)|(with_reducible refine cD ?_;first|refine bY rfl rfl rfl rfl ?_|refine ck rfl rfl rfl ?_|refine cG rfl rfl rfl rfl ?_|refine cH hN (by apply Exists.intro;apply And.intro;(repeat' (first|apply FtI.nil|apply FI.nil|apply FI.cons|apply FtI.cons));kernel_rfl) ?_)|((first|(with_reducible first|refine bt rfl rfl fun K hK=>?_|refine cE rfl rfl fun K ab=>?_|refine bu rfl rfl fun K aa=>?_|refine cF rfl rfl fun K ac=>?_|refine aK fun X Y ae af=>?_|refine aM ?_)|(with_reducible refine bz ?_;refine bJ rfl rfl fun X Y ae af=>?_)|(with_reducible refine cD ?_;refine cL rfl rfl fun X Y ae af=>?_));simp (disch:=first|decide|omega|(simp only [List.length_cons,List.length_nil];omega)) only [go_sem,beq_self_eq_true,↓aj,↓ak hN,am hN,reduceIte,reduceCtorEq,Nat.reduceAdd,Nat.reduceLT,Nat.reduceLeDiff,Nat.reduceEqDiff,Nat.reduceSub])|(with_reducible refine And.intro (fun h=>?_) (fun h=>?_) <;> try (exfalso;omega))|(with_reducible refine bn aP hN rfl ?_ ?_;kernel_rfl)|(with_reducible refine bZ aP hN rfl ?_ ?_ ?_ ?_;(kernel_rfl);(kernel_rfl);(kernel_rfl))|(refine dI (hbl) hN 0 rfl rfl rfl rfl rfl ?_ ?_ ?_ ?_;(focus (simp [aY,AV.names];done));(focus (intro ν' hν;(repeat' (first|exact ArgMs.nil|refine ArgMs.cons ?_ ?_|exact gB hν|exact gC hν|exact jg _|exact iN (by first|exact ba _|exact aZ _|exact a8 rfl rfl rfl) rfl|(refine gD hN rfl ?_ (by decide);first|exact aN _|exact aO _)|refine eI ?_));done));(focus (first|exact Or.inr ⟨rfl,rfl,fun _=>rfl⟩|exact Or.inl (by simp [aY,AV.names]))))|((first|refine bK (h5) ?_ rfl (fun _=>rfl) ?_|refine bK (hr0) ?_ rfl (fun _=>rfl) ?_|refine bK (hbo) ?_ rfl (fun _=>rfl) ?_|refine bK (hal) ?_ rfl (fun _=>rfl) ?_|refine bK (hlk) ?_ rfl (fun _=>rfl) ?_);focus ((repeat' (first|(with_reducible first|exact aG|refine aF ?_ ?_|exact cC _|refine bC ?_|exact ba _|exact b9 _ _|refine b8 ?_|exact aZ _)|exact bD hN rfl rfl|(refine b7 hN rfl ?_;first|exact aN _|exact aO _)|exact a8 rfl rfl rfl));done))|(refine bK (hr1) ?_ rfl (fun _=>rfl) ?_;focus ((repeat' (first|(with_reducible first|exact aG|refine aF ?_ ?_|exact cC _|refine bC ?_|exact ba _|exact b9 _ _|refine b8 ?_|exact aZ _)|exact bD hN rfl rfl|(refine b7 hN rfl ?_;first|exact aN _|exact aO _)|exact a8 rfl rfl rfl));done))|(refine dI (hbl3) hN 0 rfl rfl rfl rfl rfl ?_ ?_ ?_ ?_;(focus (simp [aY,AV.names];done));(focus (intro ν' hν;(repeat' (first|exact ArgMs.nil|refine ArgMs.cons ?_ ?_|exact gB hν|exact gC hν|exact jg _|exact iN (by first|exact ba _|exact aZ _|exact a8 rfl rfl rfl) rfl|(refine gD hN rfl ?_ (by decide);first|exact aN _|exact aO _)|refine eI ?_));done));(focus (first|exact Or.inr ⟨rfl,rfl,fun _=>rfl⟩|exact Or.inl (by simp [aY,AV.names]))))|(refine bK (hb1) ?_ rfl (fun _=>rfl) ?_;focus ((repeat' (first|(with_reducible first|exact aG|refine aF ?_ ?_|exact cC _|refine bC ?_|exact ba _|exact b9 _ _|refine b8 ?_|exact aZ _)|exact bD hN rfl rfl|(refine b7 hN rfl ?_;first|exact aN _|exact aO _)|exact a8 rfl rfl rfl));done))|(refine bK (hb2) ?_ rfl (fun _=>rfl) ?_;focus ((repeat' (first|(with_reducible first|exact aG|refine aF ?_ ?_|exact cC _|refine bC ?_|exact ba _|exact b9 _ _|refine b8 ?_|exact aZ _)|exact bD hN rfl rfl|(refine b7 hN rfl ?_;first|exact aN _|exact aO _)|exact a8 rfl rfl rfl));done))|(with_reducible first|exact aG|refine aF ?_ ?_|exact cC _|refine bC ?_|exact ba _|exact b9 _ _|refine b8 ?_|exact aZ _)|exact bD hN rfl rfl|(refine b7 hN rfl ?_;first|exact aN _|exact aO _)|exact a8 rfl rfl rfl|(simp only [bB,List.map_nil])|(with_reducible refine cm ?_)|(simp (disch:=first|decide|omega|(simp only [List.length_cons,List.length_nil];omega)) only [bB,List.map_cons,List.map_nil,am hN,List.set_cons_zero,List.set_cons_succ])|(with_reducible refine And.intro ?_ ?_)|(refine ah ?_;omega)|(exact bw hN (by decide))))
   all_goals (refine cO (.inr rfl) (by first|rfl|(simp (disch:=first|decide|omega|(simp only [List.length_cons,List.length_nil];omega)) only [cj,cn,cu,cy,go_sem,beq_self_eq_true,↓aj,↓ak hN,am hN,reduceIte,reduceCtorEq,Nat.reduceAdd,Nat.reduceLT,Nat.reduceLeDiff,Nat.reduceEqDiff,Nat.reduceSub];rfl)) ?_)
   all_goals rfl
 · rw [show decide ((bs.length : Int) > 4096) = true by rw [decide_eq_true_iff];omega] at hbig
   (refine bV aP Try.func5 rfl rfl (by kernel_rfl) fun hp0 ν hX hN=>?_;simp only [cK,Nat.reduceAdd])
   (repeat' (first|(with_reducible first|(refine hK _ _ ?_;clear hK K)|(refine aa _ ?_;clear aa K)|(refine ab _ _ _ ?_;clear ab K)|(refine ac _ _ ?_;clear ac K)|refine bj ?_|refine cc ?_|refine bc ?_|refine aq ?_|refine ap ?_|refine ce ?_|refine aJ ?_|refine bd ?_|refine cf ?_|refine be ?_|refine bf rfl ?_|refine bm ?_|refine bg ?_|refine cg ?_|refine bh ?_|refine aI ?_|refine n_k ?_|refine bi ?_|(refine ae ?_;clear ae X af Y)|(refine af ?_;clear ae X af Y))|(with_reducible refine br ?_;first|refine bo rfl ?_|refine bp rfl ?_)|(with_reducible refine bz ?_;first|refine au rfl rfl rfl rfl ?_|refine aL rfl rfl rfl ?_|refine bv rfl rfl rfl rfl ?_)|(with_reducible refine cD ?_;first|refine bY rfl rfl rfl rfl ?_|refine ck rfl rfl rfl ?_|refine cG rfl rfl rfl rfl ?_|refine cH hN (by apply Exists.intro;apply And.intro;(repeat' (first|apply FtI.nil|apply FI.nil|apply FI.cons|apply FtI.cons));kernel_rfl) ?_)|((first|(with_reducible first|refine bt rfl rfl fun K hK=>?_|refine cE rfl rfl fun K ab=>?_|refine bu rfl rfl fun K aa=>?_|refine cF rfl rfl fun K ac=>?_|refine aK fun X Y ae af=>?_|refine aM ?_)|(with_reducible refine bz ?_;refine bJ rfl rfl fun X Y ae af=>?_)|(with_reducible refine cD ?_;refine cL rfl rfl fun X Y ae af=>?_));simp (disch:=first|decide|omega|(simp only [List.length_cons,List.length_nil];omega)) only [go_sem,beq_self_eq_true,↓aj,↓ak hN,am hN,reduceIte,reduceCtorEq,Nat.reduceAdd,Nat.reduceLT,Nat.reduceLeDiff,Nat.reduceEqDiff,Nat.reduceSub])|(with_reducible refine And.intro (fun h=>?_) (fun h=>?_) <;> try (exfalso;omega))|(with_reducible refine bn aP hN rfl ?_ ?_;kernel_rfl)|(with_reducible refine bZ aP hN rfl ?_ ?_ ?_ ?_;(kernel_rfl);(kernel_rfl);(kernel_rfl))|(refine bK hbig ?_ rfl (fun _=>rfl) ?_)|(with_reducible first|exact aG|refine aF ?_ ?_|exact cC _|refine bC ?_|exact ba _|exact b9 _ _|refine b8 ?_|exact aZ _)|exact bD hN rfl rfl|(refine b7 hN rfl ?_;first|exact aN _|exact aO _)|exact a8 rfl rfl rfl|(simp only [bB,List.map_nil])|(with_reducible refine cm ?_)|(with_reducible refine And.intro ?_ ?_)|(refine ah ?_;omega)|(exact bw hN (by decide))))
   (refine cO (.inr rfl) (by first|rfl|(simp (disch:=first|decide|omega|(simp only [List.length_cons,List.length_nil];omega)) only [cj,cn,cu,cy,go_sem,beq_self_eq_true,↓aj,↓ak hN,am hN,reduceIte,reduceCtorEq,Nat.reduceAdd,Nat.reduceLT,Nat.reduceLeDiff,Nat.reduceEqDiff,Nat.reduceSub];rfl)) ?_)
   rfl
end Go.Proofs.Ytfaefmabjjndeaa
