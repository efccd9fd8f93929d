/-
  QuasiWon, the program.
-/
import Derived.Test.YthjamlponejffaaZwNH
import Derived.Test.YthjamlponejffaaZwNI
namespace Go.Proofs.Ythjamlponejffaa
set_option linter.unusedVariables false
set_option linter.unusedSimpArgs false
open Go.RowKit
attribute [local irreducible] au ci Aw Le
noncomputable def qD (g : Pa) : Nat:=(cR g.prio (tab g.prio.length fun v=>(v : Int)) g.prio.length).toNat
noncomputable def qX (g : Pa) : Nat → Prop:=qA (pgA g) g.prio.length (qD g + 1) ((qD g : Int) % 2) (fun v=>v < g.prio.length) g.prio.length g.prio.length
noncomputable def qwL (g : Pa) : List Int:=tab g.prio.length fun v=>if tf (qX g v) then (qD g : Int) % 2 else 1 - (qD g : Int) % 2
theorem ja (pr : List Int) (n : Nat) : ∀ k,k ≤ n → cR pr (tab n fun v=>(v : Int)) k = jP pr (b9 n fun _=>true) k
 | 0, _ => rfl
 | k + 1, h => by
   rw [cR,jP,dg _ (by omega),if_pos rfl,ja pr n k (by omega),cJ _ (by omega),Int.toNat_natCast]
structure QF (g : Pa) : Prop where
 top : cR g.prio (tab g.prio.length fun v=>(v : Int)) g.prio.length = qD g
 le : qD g ≤ 40
 low : ∀ v,v < g.prio.length → (pgA g).prio v ≤ qD g
 tot : PG.Total (pgA g) fun v=>v < g.prio.length
theorem q8 {g : Pa} (hs : cP g) : QF g:=by
 have hg:=hs.1
 have hpos : 0 < g.prio.length:=by have:=hg.ar.pos;have:=hg.len;omega
 have hp:=(fj hg).p1
 have hp' : ∀ v,v < g.prio.length → 0 ≤ gi g.prio v ∧ gi g.prio v ≤ 40:=fun v hv=>hp v hv
 have h1:=(kL (pr:=g.prio) (xs:=tab g.prio.length fun v=>(v : Int)) (d:=cR g.prio (tab g.prio.length fun v=>(v : Int)) g.prio.length) (k:=g.prio.length)).1 (Int.le_refl _)
 have h2:=(kL (pr:=g.prio) (xs:=tab g.prio.length fun v=>(v : Int)) (d:=40) (k:=g.prio.length)).2 ⟨by omega,fun i hi=>by rw [cJ _ hi,Int.toNat_natCast];exact (hp' i hi).2⟩
 have h3 : ∀ v,v < g.prio.length → gi g.prio v ≤ cR g.prio (tab g.prio.length fun v=>(v : Int)) g.prio.length:=fun v hv=>by
  have:=h1.2 v hv
  rwa [cJ _ hv,Int.toNat_natCast] at this
 have h4:=h3 0 hpos
 have h5:=(hp' 0 hpos).1
 have ht : cR g.prio (tab g.prio.length fun v=>(v : Int)) g.prio.length = qD g:=(Int.toNat_of_nonneg (by omega)).symm
 rw [ht] at h2 h3
 refine ⟨ht,by omega,fun v hv=>by rw [show (pgA g).prio v = gi g.prio v from jQ (fj hg) hv];exact h3 v hv,fun v hv=>?_⟩
 have hl:=hg.len
 have hv' : v < g.prio.length:=hv
 obtain ⟨_,_,q1,q2,q3⟩:=hg.ar.vert v (by omega)
 have q4:=q3 0 (by omega)
 exact ⟨(gi (gr g.ar.nxt v) 0).toNat,(ii _ _).2 ⟨hv',by omega,0,by omega,by omega⟩,show _ < _ by omega⟩
open Classical in
noncomputable def qwN (g : Pa) : List Int:=if cP g then qwL g else []
theorem mw (g : Pa) : (qwN g).length ≤ 1048576:=by
 unfold qwN
 split
 · rename_i h
   have:=h.2
   rw [qwL,cr];omega
 · exact Nat.zero_le _
theorem qO (g : Pa) (hs : cP g) : au Try.prog 59 [paA g] [.arr 2 .yes (.I (qwL g))] (fun ns=>.sl (ns.getD 0 0)):=by
 have hg:=hs.1
 have hle:=hs.2
 have hq:=q8 hs
 have hal:=qm g.prio.length (by omega)
 have htop:=qq (fR g) g.prio.length (fj hg) (b9 g.prio.length fun _=>true) (dI _ _)
 rw [show jP (fR g).prio (b9 g.prio.length fun _=>true) g.prio.length = qD g from (ja _ _ _ (Nat.le_refl _)).symm.trans hq.top] at htop
 have hw01 : (qD g : Int) % 2 = 0 ∨ (qD g : Int) % 2 = 1:=by omega
 have hans:=kM (fR g) g.prio.length (fj hg) (qD g + 1) (by have:=hq.le;omega) ((qD g : Int) % 2) (fun v=>v < g.prio.length) g.prio.length g.prio.length hw01 (by omega) (by omega) (fun _ h=>h) hq.tot (fun v hv=>by have:=hq.low v hv;show (pgA g).prio v ≤ _;omega)
 rw [show ((qD g + 1 : Nat) : Int) - 1 = qD g by omega,show (mks g.prio.length fun v=>v < g.prio.length) = b9 g.prio.length fun _=>true from ct fun v hv=>aH hv] at hans
 change au _ _ _ [.arr _ _ (.B (mks g.prio.length (qX g)))] _ at hans
 have htm : ((qD g : Int)).tmod 2 = (qD g : Int) % 2:=Int.tmod_eq_emod_of_nonneg (by omega)
 rw [← htm] at hans
 have hll:=dI g.prio.length fun _=>true
 have hml:=bv g.prio.length (qX g)
 have HT:=Lib.hid htm
 have hM0 : ∀ v,v < g.prio.length → gb (mks g.prio.length (qX g)) v = tf (qX g v):=fun v hv=>dY _ hv
 have HM:=Lib.hid hM0
 clear hM0
 generalize (b9 g.prio.length fun _=>true) = al at *
 generalize mks g.prio.length (qX g) = mine at *
 clear hq
 (refine bu ba Try.func59 rfl rfl (by kernel_rfl) fun hp0 ν hX hN=>?_;simp only [cy,Nat.reduceAdd])
 (repeat' (first|(with_reducible first|(apply hK;clear hK K)|refine stZ ?_|refine bc rfl ?_|((first|apply ae|apply af);clear ae X af Y))|(with_reducible refine bf ?_;first|refine bd rfl ?_|refine be rfl ?_)|((with_reducible first|((first|refine bi ?_|refine bj ?_);intro K hK)|(refine aN ?_;intro X Y ae af)|refine aO ?_);simp (disch:=first|decide|omega|(simp only [List.length_cons,List.length_nil];omega)) only [go_sem,↓am hN,ao hN,reduceIte,reduceCtorEq,Nat.reduceAdd,Nat.reduceLT,Nat.reduceLeDiff,Nat.reduceEqDiff,Nat.reduceSub])|(with_reducible refine And.intro (fun h=>?_) (fun h=>?_) <;> try (exfalso;omega))|(with_reducible refine bh ba hN ?_)|(refine pU (sr g hg) ?_ rfl rfl ?_)|((first|refine bo (hal) ?_ rfl (fun _=>rfl) ?_|refine bo (htop) ?_ rfl (fun _=>rfl) ?_);focus ((repeat' (first|(with_reducible first|exact az|refine aw ?_ ?_|exact bX _|refine aY ?_|exact a8 _|exact bA _ _|refine bz ?_|exact aW _)|exact aZ hN rfl rfl|(refine bw hN rfl ?_;first|exact aJ _|exact aK _)|exact aX rfl rfl rfl));done))|(refine bo (hans) ?_ rfl (fun _=>rfl) ?_;focus ((repeat' (first|(with_reducible first|exact az|refine aw ?_ ?_|exact bX _|refine aY ?_|exact a8 _|exact bA _ _|refine bz ?_|exact aW _)|exact aZ hN rfl rfl|(refine bw hN rfl ?_;first|exact aJ _|exact aK _)|exact aX rfl rfl rfl));done))|(with_reducible first|exact az|refine aw ?_ ?_|exact bX _|refine aY ?_|exact a8 _|exact bA _ _|refine bz ?_|exact aW _)|exact aZ hN rfl rfl|(refine bw hN rfl ?_;first|exact aJ _|exact aK _)|exact aX rfl rfl rfl|(simp only [aM,List.map_nil])|(with_reducible refine b8 ?_)|(with_reducible refine And.intro ?_ ?_)|(refine ak ?_;omega)|(exact bg hN (by decide))))
 (refine ce (fun (k : Nat)=>(tmL [(9,.c (.int .i64 k)),(8,.sl (ν 4)),(7,.sl (ν 3)),(6,.c (.int .i64 (qD g)))],hpL hp0 ν [.dead,.dead,.dead,.arr 4 .yes (.B mine),.arr 2 .yes (.I (tab k fun v=>if gb mine v = true then (qD g : Int).tmod 2 else 1 - (qD g : Int).tmod 2))])) (fun (k : Nat)=>k ≤ g.prio.length) (fun (k : Nat)=>g.prio.length - k) ⟨0,?_,bC hX hN [] ?_ ?_⟩ ?_;(repeat' (first|(with_reducible first|exact clZ|refine bD ?_ ?_|refine bE ?_ ?_|rfl|refine suZ ?_)|refine bF rfl ?_ ?_|exact aR hN _ rfl rfl rfl|exact aS hN _ rfl rfl rfl|exact aB hN _ rfl rfl rfl (Or.inr rfl)|(refine aT hN _ rfl rfl (by first|exact Or.inr rfl|exact Or.inl rfl) ?_;first|exact aJ _|exact aK _)|refine aC hN rfl ?_|refine aD hN rfl rfl ?_|exact aA hN _ rfl rfl|exact aE hN rfl rfl rfl rfl|(with_reducible first|refine stZ ?_|refine aQ ?_)));(try (any_goals (first|(with_reducible rfl)|(refine ak ?_;omega)))))
 · rfl
 intro k hk
 have hlen:=cr k fun v=>if gb mine v = true then (qD g : Int).tmod 2 else 1 - (qD g : Int).tmod 2
 (repeat' (first|(with_reducible first|(apply hK;clear hK K)|refine stZ ?_|refine bc rfl ?_|((first|apply ae|apply af);clear ae X af Y))|(with_reducible refine bf ?_;first|refine bd rfl ?_|refine be rfl ?_)|((with_reducible first|((first|refine bi ?_|refine bj ?_);intro K hK)|(refine aN ?_;intro X Y ae af)|refine aO ?_);simp (disch:=first|decide|omega|(simp only [List.length_cons,List.length_nil];omega)) only [go_sem,↓am hN,ao hN,reduceIte,reduceCtorEq,Nat.reduceAdd,Nat.reduceLT,Nat.reduceLeDiff,Nat.reduceEqDiff,Nat.reduceSub])|(with_reducible refine And.intro (fun h=>?_) (fun h=>?_) <;> try (exfalso;omega))|(with_reducible refine bh ba hN ?_)|(with_reducible refine And.intro ?_ ?_)|(refine ak ?_;omega)|(exact bg hN (by decide))))
 · have h1 : gb mine k = false:=by assumption
   (refine ⟨k + 1,⟨?_,?_⟩,bC hX hN [(4,6)] ?_ ?_⟩;(try any_goals dsimp only);(repeat' (first|(with_reducible first|exact clZ|refine bD ?_ ?_|refine bE ?_ ?_|rfl|refine suZ ?_)|refine bF rfl ?_ ?_|exact aR hN _ rfl rfl rfl|exact aS hN _ rfl rfl rfl|exact aB hN _ rfl rfl rfl (Or.inr rfl)|(refine aT hN _ rfl rfl (by first|exact Or.inr rfl|exact Or.inl rfl) ?_;first|exact aJ _|exact aK _)|refine aC hN rfl ?_|refine aD hN rfl rfl ?_|exact aA hN _ rfl rfl|exact aE hN rfl rfl rfl rfl|(with_reducible first|refine stZ ?_|refine aQ ?_)));(try (any_goals (first|(with_reducible rfl)|(refine ak ?_;omega)))))
   exact (fE k fun v=>if gb mine v = true then (qD g : Int).tmod 2 else 1 - (qD g : Int).tmod 2).trans (by rw [if_neg (by rw [h1];exact Bool.noConfusion)])
 · have h1 : gb mine k = true:=by assumption
   (refine ⟨k + 1,⟨?_,?_⟩,bC hX hN [(4,6)] ?_ ?_⟩;(try any_goals dsimp only);(repeat' (first|(with_reducible first|exact clZ|refine bD ?_ ?_|refine bE ?_ ?_|rfl|refine suZ ?_)|refine bF rfl ?_ ?_|exact aR hN _ rfl rfl rfl|exact aS hN _ rfl rfl rfl|exact aB hN _ rfl rfl rfl (Or.inr rfl)|(refine aT hN _ rfl rfl (by first|exact Or.inr rfl|exact Or.inl rfl) ?_;first|exact aJ _|exact aK _)|refine aC hN rfl ?_|refine aD hN rfl rfl ?_|exact aA hN _ rfl rfl|exact aE hN rfl rfl rfl rfl|(with_reducible first|refine stZ ?_|refine aQ ?_)));(try (any_goals (first|(with_reducible rfl)|(refine ak ?_;omega)))))
   exact (fE k fun v=>if gb mine v = true then (qD g : Int).tmod 2 else 1 - (qD g : Int).tmod 2).trans (by rw [if_pos h1])
 · (refine cz hN (i:=4) (.inr rfl) (by first|rfl|(simp (disch:=first|decide|omega|(simp only [List.length_cons,List.length_nil];omega)) only [bW,b7,cf,cj,go_sem,beq_self_eq_true,↓aG,↓am hN,ao hN,reduceIte,reduceCtorEq,Nat.reduceAdd,Nat.reduceLT,Nat.reduceLeDiff,Nat.reduceEqDiff,Nat.reduceSub];rfl)) rfl ?_ rfl)
   refine oD ?_
   rw [show k = g.prio.length by omega]
   exact aU fun v hv=>by rw [HM.out v hv,HT.out]
theorem kN (g : Pa) (hs : cP g) : au Try.prog 20 [paA g] [.arr 2 .yes (.I (qwL g))] (fun ns=>.sl (ns.getD 0 0)):=by
 have h1:=kz g
 rw [aH hs] at h1
 have h2:=qO g hs
 (refine bu ba Try.func20 rfl rfl (by kernel_rfl) fun hp0 ν hX hN=>?_;simp only [cy,Nat.reduceAdd])
 (repeat' (first|(with_reducible first|(apply hK;clear hK K)|refine stZ ?_|refine bc rfl ?_|((first|apply ae|apply af);clear ae X af Y))|(with_reducible refine bf ?_;first|refine bd rfl ?_|refine be rfl ?_)|((with_reducible first|((first|refine bi ?_|refine bj ?_);intro K hK)|(refine aN ?_;intro X Y ae af)|refine aO ?_);simp (disch:=first|decide|omega|(simp only [List.length_cons,List.length_nil];omega)) only [go_sem,↓am hN,ao hN,reduceIte,reduceCtorEq,Nat.reduceAdd,Nat.reduceLT,Nat.reduceLeDiff,Nat.reduceEqDiff,Nat.reduceSub])|(with_reducible refine And.intro (fun h=>?_) (fun h=>?_) <;> try (exfalso;omega))|(with_reducible refine bh ba hN ?_)|((first|refine bo (h1) ?_ rfl (fun _=>rfl) ?_|refine bo (h2) ?_ rfl (fun _=>rfl) ?_);focus ((repeat' (first|(with_reducible first|exact az|refine aw ?_ ?_|exact bX _|refine aY ?_|exact a8 _|exact bA _ _|refine bz ?_|exact aW _)|exact aZ hN rfl rfl|(refine bw hN rfl ?_;first|exact aJ _|exact aK _)|exact aX rfl rfl rfl));done))|(with_reducible first|exact az|refine aw ?_ ?_|exact bX _|refine aY ?_|exact a8 _|exact bA _ _|refine bz ?_|exact aW _)|exact aZ hN rfl rfl|(refine bw hN rfl ?_;first|exact aJ _|exact aK _)|exact aX rfl rfl rfl|(simp only [aM,List.map_nil])|(with_reducible refine b8 ?_)|(with_reducible refine And.intro ?_ ?_)|(refine ak ?_;omega)|(exact bg hN (by decide))))
 all_goals (refine cz hN (i:=1) (.inr rfl) (by first|rfl|(simp (disch:=first|decide|omega|(simp only [List.length_cons,List.length_nil];omega)) only [bW,b7,cf,cj,go_sem,beq_self_eq_true,↓aG,↓am hN,ao hN,reduceIte,reduceCtorEq,Nat.reduceAdd,Nat.reduceLT,Nat.reduceLeDiff,Nat.reduceEqDiff,Nat.reduceSub];rfl)) rfl ?_ rfl)
 all_goals rfl
theorem jS (g : Pa) (hs : ¬ cP g) : au Try.prog 20 [paA g] [.arr 2 .yes (.I [])] (fun ns=>.sl (ns.getD 0 0)):=by
 have h1:=kz g
 rw [ap hs] at h1
 (refine bu ba Try.func20 rfl rfl (by kernel_rfl) fun hp0 ν hX hN=>?_;simp only [cy,Nat.reduceAdd])
 (repeat' (first|(with_reducible first|(apply hK;clear hK K)|refine stZ ?_|refine bc rfl ?_|((first|apply ae|apply af);clear ae X af Y))|(with_reducible refine bf ?_;first|refine bd rfl ?_|refine be rfl ?_)|((with_reducible first|((first|refine bi ?_|refine bj ?_);intro K hK)|(refine aN ?_;intro X Y ae af)|refine aO ?_);simp (disch:=first|decide|omega|(simp only [List.length_cons,List.length_nil];omega)) only [go_sem,↓am hN,ao hN,reduceIte,reduceCtorEq,Nat.reduceAdd,Nat.reduceLT,Nat.reduceLeDiff,Nat.reduceEqDiff,Nat.reduceSub])|(with_reducible refine And.intro (fun h=>?_) (fun h=>?_) <;> try (exfalso;omega))|(with_reducible refine bh ba hN ?_)|(refine bo (h1) ?_ rfl (fun _=>rfl) ?_;focus ((repeat' (first|(with_reducible first|exact az|refine aw ?_ ?_|exact bX _|refine aY ?_|exact a8 _|exact bA _ _|refine bz ?_|exact aW _)|exact aZ hN rfl rfl|(refine bw hN rfl ?_;first|exact aJ _|exact aK _)|exact aX rfl rfl rfl));done))|(with_reducible first|exact az|refine aw ?_ ?_|exact bX _|refine aY ?_|exact a8 _|exact bA _ _|refine bz ?_|exact aW _)|exact aZ hN rfl rfl|(refine bw hN rfl ?_;first|exact aJ _|exact aK _)|exact aX rfl rfl rfl|(simp only [aM,List.map_nil])|(with_reducible refine b8 ?_)|(with_reducible refine And.intro ?_ ?_)|(refine ak ?_;omega)|(exact bg hN (by decide))))
 all_goals (refine cz hN (i:=1) (.inr rfl) (by first|rfl|(simp (disch:=first|decide|omega|(simp only [List.length_cons,List.length_nil];omega)) only [bW,b7,cf,cj,go_sem,beq_self_eq_true,↓aG,↓am hN,ao hN,reduceIte,reduceCtorEq,Nat.reduceAdd,Nat.reduceLT,Nat.reduceLeDiff,Nat.reduceEqDiff,Nat.reduceSub];rfl)) rfl ?_ rfl)
 all_goals rfl
end Go.Proofs.Ythjamlponejffaa
namespace Go.Proofs.Ythjamlponejffaa
set_option linter.unusedVariables false
set_option linter.unusedSimpArgs false
open Go.RowKit
attribute [local irreducible] au ci Aw Le
attribute [local go_sem ↓] Go.wp_at_zero Go.wp_at_succ
theorem my : ∀ n : Nat,(tab n fun v=>(v : Int)) = lst (fun _=>True) n
 | 0 => rfl
 | n + 1 => by rw [fE, my n, cM trivial]
theorem ss (n : Nat) : (tab n fun v=>(v : Int)) = lst (fun v=>v < n) n:=(my n).trans (eR fun v hv=>⟨fun _=>hv,fun _=>trivial⟩)
theorem o8 {w : World} {B k : Nat} {u : Value} {s : Option Addr} {n c : Nat} {xs : List Int} (h : cg w s n c xs) (hne : ∀ ad,s = some ad → ad.block ≠ B) : cg (w.setCell ⟨B,k,none⟩ u) s n c xs :=
 ⟨h.1,h.2.cap,h.2.max,h.2.nil,h.2.spot,fun ad e j hj=>by
  rw [← h.2.cell ad e j hj]
  exact World.cell?_of_block (RowKit.Below.heap_setCell _ _ _ _ (hne ad e))⟩
theorem kO (g : Pa) (hs : ¬ cP g) : au Try.prog 21 [paA g] [] (fun _=>.c .nul):=by
 have h1:=ky g
 rw [ap hs] at h1
 (refine bu ba Try.func21 rfl rfl (by kernel_rfl) fun hp0 ν hX hN=>?_;simp only [cy,Nat.reduceAdd])
 (repeat' (first|(with_reducible first|(apply hK;clear hK K)|refine stZ ?_|refine bc rfl ?_|((first|apply ae|apply af);clear ae X af Y))|(with_reducible refine bf ?_;first|refine bd rfl ?_|refine be rfl ?_)|((with_reducible first|((first|refine bi ?_|refine bj ?_);intro K hK)|(refine aN ?_;intro X Y ae af)|refine aO ?_);simp (disch:=first|decide|omega|(simp only [List.length_cons,List.length_nil];omega)) only [go_sem,↓am hN,ao hN,reduceIte,reduceCtorEq,Nat.reduceAdd,Nat.reduceLT,Nat.reduceLeDiff,Nat.reduceEqDiff,Nat.reduceSub])|(with_reducible refine And.intro (fun h=>?_) (fun h=>?_) <;> try (exfalso;omega))|(with_reducible refine bh ba hN ?_)|(refine bo (h1) ?_ rfl (fun _=>rfl) ?_;focus ((repeat' (first|(with_reducible first|exact az|refine aw ?_ ?_|exact bX _|refine aY ?_|exact a8 _|exact bA _ _|refine bz ?_|exact aW _)|exact aZ hN rfl rfl|(refine bw hN rfl ?_;first|exact aJ _|exact aK _)|exact aX rfl rfl rfl));done))|(with_reducible first|exact az|refine aw ?_ ?_|exact bX _|refine aY ?_|exact a8 _|exact bA _ _|refine bz ?_|exact aW _)|exact aZ hN rfl rfl|(refine bw hN rfl ?_;first|exact aJ _|exact aK _)|exact aX rfl rfl rfl|(simp only [aM,List.map_nil])|(with_reducible refine b8 ?_)|(with_reducible refine And.intro ?_ ?_)|(refine ak ?_;omega)|(exact bg hN (by decide))))
 (refine mj hN [] (by decide) (.inr rfl) (by first|exact fQ rfl rfl|exact fi hN rfl rfl rfl rfl|exact ec hN rfl rfl rfl rfl rfl|(simp (disch:=first|decide|omega|(simp only [List.length_cons,List.length_nil];omega)) only [bW,b7,cf,cj,go_sem,beq_self_eq_true,↓aG,↓am hN,ao hN,reduceIte,reduceCtorEq,Nat.reduceAdd,Nat.reduceLT,Nat.reduceLeDiff,Nat.reduceEqDiff,Nat.reduceSub];rfl)|rfl) ?_ fun νs hνs=>?_;(repeat' (first|exact Gone.nil|(refine Gone.cons rfl rfl ?_ ?_)|(with_reducible refine jL ?_)|(with_reducible refine jK ?_)|(with_reducible refine SVs.cons ?_ ?_)|(with_reducible exact SVs.nil)|(simp only [List.drop,List.take])|(simp (disch:=first|decide|omega) only [↓aG,reduceIte,reduceCtorEq,Nat.reduceEqDiff])|(with_reducible exact qe _)|(with_reducible exact jI _)|(exact jJ rfl rfl rfl)|(exact mg 0 (by simp) rfl rfl)|(refine mf hN rfl (jM hN (by decide)) ?_)|(with_reducible refine me ?_)|(with_reducible rfl)|(with_reducible refine qf ?_)|(with_reducible refine oD ?_)|(with_reducible refine qg ?_)|(with_reducible refine oE ?_)|(with_reducible refine qi ?_)|(refine ak ?_;omega))))
 all_goals rfl
theorem o9 (x u : Value) (g : Pa) (xs : List Int) (hB : Bnd xs g.prio.length) (w : World) (hP : IsP w x g) (hI : IsI w u xs) : Calls Try.prog 61 #[x,u] w fun e w'=>e = .returned (.int .i64 (cR g.prio xs xs.length)) ∧ Below w.heap.size w w' :=
 qc (vs:=[x,u]) (qj g xs hB) (.cons (oA hP) (.cons (kv hI) .nil))
set_option maxRecDepth 100000 in
theorem lI (x : Value) (g : Pa) (hs : cP g) (w : World) (hP : IsP w x g) : Calls Try.prog 21 #[x] w (eo w (qwL g)):=by
 have hq:=q8 hs
 have HR:=(mu g hs (qD g) (by have:=hq.le;omega)).2.2
 have hP0:=hP
 obtain ⟨_,_,_,rfl,⟨s1,n1,c1,rfl,h1⟩,⟨s2,n2,c2,rfl,h2⟩,⟨s3,n3,c3,rfl,h3⟩⟩:=hP
 have k1:=Lib.hid (aH hs)
 have HS:=Lib.hid hs
 have HL:=Lib.hid hs.1.len
 have HTop : cR g.prio (tab g.prio.length fun v=>(v : Int)) (tab g.prio.length fun v=>(v : Int)).length = qD g:=by rw [cr];exact hq.top
 have hB0 : Bnd (tab g.prio.length fun v=>(v : Int)) g.prio.length:=fun k hk=>by rw [cr] at hk;rw [cJ _ hk];omega
 have HT:=Lib.hid HTop
 have HB:=Lib.hid hB0
 have hd40 : 0 ≤ (qD g : Int) ∧ (qD g : Int) ≤ 40:=by have:=hq.le;omega
 clear hs HTop hB0 hq
 go_enter Try.func21,Try.ntmps21
 go_wp2_with fail
 have hB : Blk (w.alloc (.cells #[.slice s1 n1 c1,.slice s2 n2 c2,.slice s3 n3 c3] 32)) w.heap.size [.slice s1 n1 c1,.slice s2 n2 c2,.slice s3 n3 c3] 32:=cL _ _ _
 have hbw : Below w.heap.size w (w.alloc (.cells #[.slice s1 n1 c1,.slice s2 n2 c2,.slice s3 n3 c3] 32)):=aq _ _
 generalize w.alloc (.cells #[.slice s1 n1 c1,.slice s2 n2 c2,.slice s3 n3 c3] 32) = w1 at *
 have b0:=hB.cell 0 rfl
 have b1:=hB.cell 1 rfl
 have b2:=hB.cell 2 rfl
 go_wp2_with (first
  | (go_at_call 50; refine (o7 _ _ _ (hP0.below hbw)).mono ?_; rw [k1.out]; rintro e w2 ⟨rfl, hbw2⟩; replace b0 := an b0 hbw2; replace b1 := an b1 hbw2; replace b2 := an b2 hbw2; replace hbw : Below w.heap.size w w2 := hbw.trans (hbw2.mono hbw.size))
  | (go_at_call 60; refine (pe _ _ _ (hP0.arena.below hbw) HS.out.1.ar.le).mono ?_; rw [← HL.out]; rintro e w3 ⟨s4, n4, c4, rfl, ho4, hbw3⟩; replace b0 := an b0 hbw3; replace b1 := an b1 hbw3; replace b2 := an b2 hbw3; replace hbw : Below w.heap.size w w3 := hbw.trans (hbw3.mono hbw.size); have hz3 := hbw3.size)
  | (go_at_call 61; refine (o9 _ _ g _ HB.out _ (hP0.below hbw) ho4.is).mono ?_; rw [HT.out]; rintro e w4 ⟨rfl, hbw4⟩; replace b0 := an b0 hbw4; replace b1 := an b1 hbw4; replace b2 := an b2 hbw4; replace ho4 := ho4.below hbw4; replace hbw : Below w.heap.size w w4 := hbw.trans (hbw4.mono hbw.size); have hz4 := hbw4.size; have hN4 := ho4.len; rw [cr] at hN4; have HN := Lib.hid hN4; have hn12 : n4 ≤ 12 := (by have := HS.out.2; omega); clear hN4; have hlt4 : w.heap.size < w4.heap.size := (by have := hB.lt; have := hbw2.size; omega))
  | (at_make; refine pc rfl _ _ rfl _ _ _ _ n4 rfl rfl rfl rfl (by omega) ?_; intro w5 ho5 hb5 hz5))
 have hw01 : 0 ≤ (qD g : Int) % 2 ∧ (qD g : Int) % 2 ≤ 1:=by omega
 go_loopw [26] (fun i wr=>∃ k : Nat,k ≤ n4 ∧ i = .int .i64 k ∧ ax w4.heap.size wr.heap.size wr (.slice (some ⟨w4.heap.size,0,none⟩) n4 n4) (tab n4 fun v=>if v < k then 1 - (qD g : Int) % 2 else 0) ∧ Below w4.heap.size w4 wr) (fun i _=>n4 - (intOf i).toNat)
 case atStart=>exact ⟨0,by omega,rfl,by simpa using ho5,hb5⟩
 case round =>
  obtain ⟨k,hk,rfl,ho,hb⟩:=hrel
  by_cases hlt : k < n4
  · obtain ⟨q1,q2,q3,q4⟩:=ho.cell hlt
    go_wp2_with fail
    go_roundw
    case rel =>
     refine ⟨k + 1,by omega,by go_num,?_,aj hb (Nat.le_refl _) _⟩
     rw [ma (f:=fun _=>1 - (qD g : Int) % 2) (d:=fun _=>0) hlt rfl]
     exact (ax.set ho k _).top
    case measure=>simp [intOf];omega
  · have hk4 : ∀ v,v < n4 → v < k:=fun v hv=>by omega
    have ho' : ax w4.heap.size wr.heap.size wr (.slice (some ⟨w4.heap.size,0,none⟩) n4 n4) (tab n4 fun _=>1 - (qD g : Int) % 2):=by
     rwa [show (tab n4 fun v=>if v < k then 1 - (qD g : Int) % 2 else 0) = tab n4 fun _=>1 - (qD g : Int) % 2 from aU fun v hv=>if_pos (hk4 v hv)] at ho
    have hbr : Below w.heap.size w wr:=hbw.trans (hb.mono hbw.size)
    replace b0:=an b0 hb
    replace b1:=an b1 hb
    replace b2:=an b2 hb
    have hzr:=hb.size
    have hlen4:=ho4.len
    clear ho hk4
    go_wp2_with (first
     | (go_at_call 52; refine (lH _ _ _ (hP0.below hbr)).mono ?_; rintro e w6 ⟨bs, bm, rfl, hK, hbm, hb6⟩)
     | (go_at_call 53; refine (HR bs bm _ ((qD g : Int) % 2) (fun v => v < g.prio.length) (qD g) n4 n4 _ rfl (by omega) (by omega) (by omega) (fun _ h => h) hK (ss g.prio.length ▸ ((ho4.is.below hb).below hb6))).mono ?_; rintro e w7 ⟨s7, n7, c7, rfl, hF7, hK7, hM7⟩))
    have hz6:=hb6.size
    have hz7:=hM7.out.size
    have hwr : w4.heap.size < wr.heap.size:=(ax.blks ho' w4.heap.size rfl).2
    have ho7:=ax.out (ax.below ho' hb6) hM7.out (.inl hbm)
    have hI7:=IsI.ints hF7.1
    have hbw7 : Below w.heap.size w w7:=hbr.trans ((hb6.mono hbr.size).trans (hM7.below (by omega) (by omega)))
    have hfar : ∀ ad,s7 = some ad → ad.block ≠ w4.heap.size:=fun ad e=>by
     have:=hF7.2 ad.block (by rw [e];rfl)
     omega
    obtain ⟨L,hL⟩ : ∃ L,L = lst (qA (pgA g) g.prio.length (qD g + 1) ((qD g : Int) % 2) (fun v=>v < g.prio.length) n4 n4) g.prio.length:=⟨_,rfl⟩
    rw [← hL] at hI7
    have hLb : ∀ j,j < n7 → 0 ≤ gi L j ∧ gi L j < n4:=fun j hj=>by
     have hm:=cm (xs:=L) (k:=j) (by rw [hI7.1];exact hj)
     rw [hL] at hm
     obtain ⟨v,h1,_,h3⟩:=dj.1 hm
     have:=HN.out
     rw [hL]
     omega
    have hn7 : n7 ≤ 12:=by
     have h1:=hI7.1
     have h2:=dX (qA (pgA g) g.prio.length (qD g + 1) ((qD g : Int) % 2) (fun v=>v < g.prio.length) n4 n4) g.prio.length
     rw [← hL] at h2
     have:=HS.out.2
     omega
    have HLL:=Lib.hid hL
    have HLB:=Lib.hid hLb
    have HFar:=Lib.hid hfar
    clear hL hLb hfar hF7 hK hK7 hM7 hb6 hbr
    have h0 : (tab n4 fun _=>1 - (qD g : Int) % 2) = tab n4 fun v=>if tf (∃ t,t < 0 ∧ gi L t = (v : Int)) then (qD g : Int) % 2 else 1 - (qD g : Int) % 2:=aU fun v hv=>by
     rw [ap (by rintro ⟨t,h,_⟩;omega)];rfl
    rw [h0] at ho7
    clear h0
    have HI7:=hI7
    go_loopw [46] (fun i wq=>∃ j : Nat,j ≤ n7 ∧ i = .int .i64 j ∧ ax w4.heap.size wq.heap.size wq (.slice (some ⟨w4.heap.size,0,none⟩) n4 n4) (tab n4 fun v=>if tf (∃ t,t < j ∧ gi L t = (v : Int)) then (qD g : Int) % 2 else 1 - (qD g : Int) % 2) ∧ cg wq s7 n7 c7 L ∧ Below w.heap.size w wq) (fun i _=>n7 - (intOf i).toNat)
    case atStart=>exact ⟨0,Nat.zero_le _,rfl,ax.top ho7,hI7,hbw7⟩
    case round =>
     clear ho7 hI7 hbw7
     obtain ⟨j,hj,rfl,hoj,hIj,hbj⟩:=hrel
     by_cases hlj : j < n7
     · obtain ⟨bL,oL,rfl,hbl,hc⟩:=hIj.get hlj
       have hcj:=hc j hlj
       have hg:=HLB.out j hlj
       have hg2 : (gi L j).toNat < n4:=by omega
       obtain ⟨hg0,hg1⟩:=hg
       obtain ⟨q1,q2,q3,q4⟩:=hoj.cell hg2
       clear hc
       go_wp2_with fail
       go_roundw
       case rel =>
        refine ⟨j + 1,by omega,by go_num,?_,o8 hIj HFar.out,aj hbj (by omega) _⟩
        have hn:=(ax.set hoj (gi L j).toNat ((qD g : Int) % 2)).top
        rw [fy hg2] at hn
        rwa [show (tab n4 fun v=>if tf (∃ t,t < j + 1 ∧ gi L t = (v : Int)) then (qD g : Int) % 2 else 1 - (qD g : Int) % 2) = tab n4 fun i=>if i = (gi L j).toNat then (qD g : Int) % 2 else if tf (∃ t,t < j ∧ gi L t = (i : Int)) then (qD g : Int) % 2 else 1 - (qD g : Int) % 2 from aU fun v hv=>?_]
        by_cases e : v = (gi L j).toNat
        · rw [if_pos e,aH ⟨j,by omega,by omega⟩];rfl
        · rw [if_neg e,cH (q:=∃ t,t < j ∧ gi L t = (v : Int)) ⟨fun ⟨t,h1,h2⟩=>⟨t,by
           by_cases et : t = j
           · subst et;omega
           · omega,h2⟩,fun ⟨t,h1,h2⟩=>⟨t,by omega,h2⟩⟩]
       case measure=>simp [intOf];omega
     · have ej : j = n7:=by omega
       go_wp2_with fail
       go_ret
       refine ⟨_,_,_,rfl,?_,hbj⟩
       have hfin : (tab n4 fun v=>if tf (∃ t,t < j ∧ gi L t = (v : Int)) then (qD g : Int) % 2 else 1 - (qD g : Int) % 2) = qwL g:=by
        have hn:=HN.out
        have hll:=HI7.1
        have hLL:=HLL.out
        rw [← hn] at hLL ⊢
        refine aU fun v hv=>?_
        rw [cH (q:=qX g v)]
        rw [ej]
        constructor
        · rintro ⟨t,h1,h2⟩
          have hm:=cm (xs:=L) (k:=t) (by omega)
          rw [h2,hLL] at hm
          exact (gh hv).1 hm
        · intro h
          obtain ⟨t,h1,h2⟩:=dr ((gh hv).2 h)
          refine ⟨t,?_,?_⟩
          · rw [← hll,hLL];exact h1
          · rw [hLL];exact h2
       rw [hfin] at hoj
       exact ax.mono hoj (by omega) (Nat.le_refl _)
theorem iq (x : Value) (g : Pa) (w : World) (hP : IsP w x g) : Calls Try.prog 21 #[x] w (eo w (qwN g)):=by
 by_cases h : cP g
 · rw [qwN,if_pos h];exact lI x g h w hP
 · rw [qwN,if_neg h];exact oY (vs:=[x]) (kO g h) (.cons (oA hP) .nil)
theorem lJ (x : Value) (g : Pa) (w : World) (hP : IsP w x g) : Calls Try.prog 20 #[x] w (eo w (qwN g)):=by
 by_cases h : cP g
 · rw [qwN,if_pos h];exact gK (vs:=[x]) (kN g h) rfl (.cons (oA hP) .nil)
 · rw [qwN,if_neg h];exact gK (vs:=[x]) (jS g h) rfl (.cons (oA hP) .nil)
end Go.Proofs.Ythjamlponejffaa
