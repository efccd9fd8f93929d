/-
  RoundOf and AnsweredTo, the program.
-/
import Derived.Test.YthjamlponejffaaZrNG
import Derived.Test.YthjamlponejffaaZrNH
import Derived.Test.YthjamlponejffaaZrLaw
namespace Go.Proofs.Ythjamlponejffaa
set_option linter.unusedVariables false
set_option linter.unusedSimpArgs false
open Go.RowKit
attribute [local irreducible] aw cu Aw Le
attribute [local go_sem ↓] Go.wp_at_zero Go.wp_at_succ
section
variable {w : World} {o : Oper} {a : Act} {Q : Exit → Act → World → Prop} {K : Act → World → Prop}
theorem kA (s x : Operand) (hop : o.op = .call { callee:=.builtin .append,args:=#[s,x],argTypes:=#[22,22] })
  (b : Addr) (hs : a.eval s = .slice (some b) 0 0) {sx : Option Addr} {c : Nat} (hx : a.eval x = .slice sx 0 c) (hK : K (a.put o.dst (.slice (some b) 0 0)) w) : o.wp Try.prog a w K Q:=by
 have hu:=Try.underlying22
 unfold Oper.wp execOp
 cases sx with
 | none =>
   simp only [hop,resolve,invoke,builtin,Sem.run_bind,Sem.run_pure,Result.andThen_ok,List.map_toArray,List.map_cons,List.map_nil,hs,hx]
   go_simp
   exact hK
 | some ad =>
   simp only [hop,resolve,invoke,builtin,Sem.run_bind,Sem.run_pure,Result.andThen_ok,List.map_toArray,List.map_cons,List.map_nil,hs,hx]
   go_simp
   exact hK
theorem qb {ops : Array Oper} {rest : List Oper} (hg : o.guard = none) (s x : Operand) (hop : o.op = .call { callee:=.builtin .append,args:=#[s,x],argTypes:=#[22,22] })
  (b : Addr) (hs : a.eval s = .slice (some b) 0 0) {lo : Nat} (hb : az lo w.heap.size w (.slice (some b) 0 0) []) (hlo : lo ≤ w.heap.size) {sx : Option Addr} {m c : Nat} {ys : List Int} (hx : a.eval x = .slice sx m c) (hI : cm w sx m c ys) (hn : m ≤ 1048576)
  (hK : ∀ sa c' w',az lo w'.heap.size w' (.slice sa m c') ys → Below w.heap.size w w' → wpList Try.prog ops Q rest (a.put o.dst (.slice sa m c')) w') : wpList Try.prog ops Q (o :: rest) a w:=by
 rcases Nat.eq_zero_or_pos m with e|e
 · subst e
   have h0 : ys = []:=List.eq_nil_of_length_eq_zero hI.1
   subst h0
   exact wpList_plain hg fun _ hK'=>kA s x hop b hs hx (hK' _ _ (hK _ _ _ hb (Below.refl _ _)))
 · exact jo hg s x hop b hs hx hI e hn fun sa c' w' h1 h2=>hK sa c' w' (az.mono h1 hlo (Nat.le_refl _)) h2
end
theorem kB (g : Pa) (hs : dJ g) : ∀ D,D < 50 → p9 g D ∧ tb g D ∧ ta g D
 | 0, _ => by
   have h1:=rz g hs
   have h2:=lE g hs 0 (by omega) h1
   exact ⟨h1,h2,lF g hs 0 (by omega) h1 h2⟩
 | D + 1, h => by
   have h1:=rA g hs D (by omega) (kB g hs D (by omega)).2.2
   have h2:=lE g hs (D + 1) (by omega) h1
   exact ⟨h1,h2,lF g hs (D + 1) (by omega) h1 h2⟩
set_option maxRecDepth 100000 in
theorem jc (x : Value) (g : Pa) (w : World) (hP : IsP w x g) : Calls Try.prog 52 #[x] w fun e w'=>∃ bs bm,e = .returned (.pointer (some ⟨bs,0,none⟩)) ∧ Ask w' bs bm g ∧ w.heap.size ≤ bm ∧ Below w.heap.size w w':=by
 have hP0:=hP
 obtain ⟨_,_,_,rfl,⟨s1,n1,c1,rfl,h1⟩,⟨s2,n2,c2,rfl,h2⟩,⟨s3,n3,c3,rfl,h3⟩⟩:=hP
 have hmm:=@run_makeMap Try.prog
 go_enter Try.func52,Try.ntmps52
 go_wp2_with fail
 have e1 : (w.alloc (.cells #[.slice s1 n1 c1,.slice s2 n2 c2,.slice s3 n3 c3] 32)).heap.size = w.heap.size + 1:=by simp
 have hA:=ay w (.cells #[.slice s1 n1 c1,.slice s2 n2 c2,.slice s3 n3 c3] 32)
 generalize w.alloc (.cells #[.slice s1 n1 c1,.slice s2 n2 c2,.slice s3 n3 c3] 32) = wA at *
 have hO:=World.ownsMap_made wA Try.prog 102 rdV
 have e2 : (wA.alloc (.map #[] 0)).heap.size = w.heap.size + 1 + 1:=by simp [e1]
 have hM:=ay wA (.map #[] 0)
 rw [e1] at hO
 generalize wA.alloc (.map #[] 0) = wM at *
 have hB:=cr wM [.slice s1 n1 c1,.slice s2 n2 c2,.slice s3 n3 c3,.map (some (w.heap.size + 1))] 100
 have hC:=ay wM (.cells #[.slice s1 n1 c1,.slice s2 n2 c2,.slice s3 n3 c3,.map (some (w.heap.size + 1))] 100)
 rw [e2] at hB
 go_ret
 have hP3 : IsP (wM.alloc (.cells #[.slice s1 n1 c1,.slice s2 n2 c2,.slice s3 n3 c3,.map (some (w.heap.size + 1))] 100)) (.agg #[.slice s1 n1 c1,.slice s2 n2 c2,.slice s3 n3 c3]) g:=((hP0.below hA).below hM).below hC
 exact ⟨w.heap.size + 1 + 1,w.heap.size + 1,rfl,⟨⟨s1,n1,c1,s2,n2,c2,s3,n3,c3,hB.cell 0 rfl,hB.cell 1 rfl,hB.cell 2 rfl,hP3⟩,hB.cell 3 rfl,0,_,hO.alloc _,fun p hp=>by cases hp⟩,by omega,hA.trans ((hM.mono (by omega)).trans (hC.mono (by omega)))⟩
theorem lN (x : Value) (g : Pa) (w : World) (hP : IsP w x g) : Calls Try.prog 50 #[x] w fun e w'=>e = .returned (.bool (tf (dJ g))) ∧ Below w.heap.size w w' :=
 nj (vs:=[x]) (e8 g) (.cons (ov hP) .nil)
theorem jd (x u : Value) (g : Pa) (hg : PaOk g) (xs : List Int) (who d mine yours : Int) (w : World) (hP : IsP w x g) (hI : IsI w u xs) : Calls Try.prog 51 #[x,u,.int .i64 who,.int .i64 d,.int .i64 mine,.int .i64 yours] w fun e w'=>e = .returned (.bool (tf (eE g xs who d mine yours))) ∧ Below w.heap.size w w' :=
 nj (vs:=[x,u,.int .i64 who,.int .i64 d,.int .i64 mine,.int .i64 yours]) (gH g hg xs who d mine yours) (.cons (ov hP) (.cons (gZ hI) (.cons (dV _ _) (.cons (dV _ _) (.cons (dV _ _) (.cons (dV _ _) .nil))))))
theorem mO (g : Pa) (xs : List Int) (who d mine yours : Int) (h : ¬ cP g xs who d mine yours) : aw Try.prog 19 [paA g,.c (.I xs),.c (.int .i64 who),.c (.int .i64 d),.c (.int .i64 mine),.c (.int .i64 yours)] [] (fun _=>.c .nul):=by
 by_cases hs : dJ g
 · have h1:=e8 g
   rw [aA hs] at h1
   have h2:=gH g hs.1 xs who d mine yours
   rw [aq fun h'=>h ⟨hs,h'⟩] at h2
   (refine aV aS Try.func19 rfl rfl (by kernel_rfl) fun hp0 ν hX hN=>?_;simp only [ca,Nat.reduceAdd])
   (repeat' (first|(with_reducible first|(apply hK;clear hK K)|refine stZ ?_|refine aX rfl ?_|((first|apply ae|apply af);clear ae X af Y))|(with_reducible refine a8 ?_;first|refine aY rfl ?_|refine aZ rfl ?_)|(with_reducible refine bz ?_;first|refine be rfl rfl rfl rfl ?_|refine bv rfl rfl rfl ?_|refine bN rfl rfl rfl rfl ?_)|((first|(with_reducible first|((first|refine bc ?_|refine bd ?_);intro K hK)|(refine aC ?_;intro X Y ae af)|refine aD ?_)|(with_reducible refine bz ?_;refine bf rfl rfl fun X Y ae af=>?_));simp (disch:=first|decide|omega|(simp only [List.length_cons,List.length_nil];omega)) only [go_sem,↓ak hN,an hN,reduceIte,reduceCtorEq,Nat.reduceAdd,Nat.reduceLT,Nat.reduceLeDiff,Nat.reduceEqDiff,Nat.reduceSub])|(with_reducible refine And.intro (fun h=>?_) (fun h=>?_) <;> try (exfalso;omega))|(with_reducible refine ba aS hN ?_)|((first|refine aB (h1) ?_ rfl (fun _=>rfl) ?_|refine aB (h2) ?_ rfl (fun _=>rfl) ?_);focus ((repeat' (first|(with_reducible first|exact au|refine ap ?_ ?_|exact bF _|refine aH ?_|exact aJ _|exact bi _ _|refine bh ?_|exact aF _)|exact aI hN rfl rfl|(refine bg hN rfl ?_;first|exact aP _|exact aQ _)|exact aG rfl rfl rfl));done))|(with_reducible first|exact au|refine ap ?_ ?_|exact bF _|refine aH ?_|exact aJ _|exact bi _ _|refine bh ?_|exact aF _)|exact aI hN rfl rfl|(refine bg hN rfl ?_;first|exact aP _|exact aQ _)|exact aG rfl rfl rfl|(simp only [aT,List.map_nil])|(with_reducible refine bC ?_)|(with_reducible refine And.intro ?_ ?_)|(refine am ?_;omega)|(exact a9 hN (by decide))))
   (refine iN hN [] (by decide) (.inr rfl) (by first|exact dI rfl rfl|exact cX hN rfl rfl rfl rfl|exact cH hN rfl rfl rfl rfl rfl|(simp (disch:=first|decide|omega|(simp only [List.length_cons,List.length_nil];omega)) only [bH,bM,bP,bQ,go_sem,beq_self_eq_true,↓ax,↓ak hN,an hN,reduceIte,reduceCtorEq,Nat.reduceAdd,Nat.reduceLT,Nat.reduceLeDiff,Nat.reduceEqDiff,Nat.reduceSub];rfl)|rfl) ?_ fun νs hνs=>?_;(repeat' (first|exact Gone.nil|(refine Gone.cons rfl rfl ?_ ?_)|(with_reducible refine fO ?_)|(with_reducible refine fN ?_)|(with_reducible refine SVs.cons ?_ ?_)|(with_reducible exact SVs.nil)|(simp only [List.drop,List.take])|(simp (disch:=first|decide|omega) only [↓ax,reduceIte,reduceCtorEq,Nat.reduceEqDiff])|(with_reducible exact my _)|(with_reducible exact fL _)|(exact fM rfl rfl rfl)|(exact iM 0 (by simp) rfl rfl)|(refine iL hN rfl (fP hN (by decide)) ?_)|(with_reducible refine iK ?_)|(with_reducible rfl)|(with_reducible refine mz ?_)|(with_reducible refine mA ?_)|(with_reducible refine mB ?_)|(with_reducible refine mC ?_)|(with_reducible refine kr ?_)|(refine am ?_;omega))))
   all_goals rfl
 · have h1:=e8 g
   rw [aq hs] at h1
   (refine aV aS Try.func19 rfl rfl (by kernel_rfl) fun hp0 ν hX hN=>?_;simp only [ca,Nat.reduceAdd])
   (repeat' (first|(with_reducible first|(apply hK;clear hK K)|refine stZ ?_|refine aX rfl ?_|((first|apply ae|apply af);clear ae X af Y))|(with_reducible refine a8 ?_;first|refine aY rfl ?_|refine aZ rfl ?_)|(with_reducible refine bz ?_;first|refine be rfl rfl rfl rfl ?_|refine bv rfl rfl rfl ?_|refine bN rfl rfl rfl rfl ?_)|((first|(with_reducible first|((first|refine bc ?_|refine bd ?_);intro K hK)|(refine aC ?_;intro X Y ae af)|refine aD ?_)|(with_reducible refine bz ?_;refine bf rfl rfl fun X Y ae af=>?_));simp (disch:=first|decide|omega|(simp only [List.length_cons,List.length_nil];omega)) only [go_sem,↓ak hN,an hN,reduceIte,reduceCtorEq,Nat.reduceAdd,Nat.reduceLT,Nat.reduceLeDiff,Nat.reduceEqDiff,Nat.reduceSub])|(with_reducible refine And.intro (fun h=>?_) (fun h=>?_) <;> try (exfalso;omega))|(with_reducible refine ba aS hN ?_)|(refine aB (h1) ?_ rfl (fun _=>rfl) ?_;focus ((repeat' (first|(with_reducible first|exact au|refine ap ?_ ?_|exact bF _|refine aH ?_|exact aJ _|exact bi _ _|refine bh ?_|exact aF _)|exact aI hN rfl rfl|(refine bg hN rfl ?_;first|exact aP _|exact aQ _)|exact aG rfl rfl rfl));done))|(with_reducible first|exact au|refine ap ?_ ?_|exact bF _|refine aH ?_|exact aJ _|exact bi _ _|refine bh ?_|exact aF _)|exact aI hN rfl rfl|(refine bg hN rfl ?_;first|exact aP _|exact aQ _)|exact aG rfl rfl rfl|(simp only [aT,List.map_nil])|(with_reducible refine bC ?_)|(with_reducible refine And.intro ?_ ?_)|(refine am ?_;omega)|(exact a9 hN (by decide))))
   (refine iN hN [] (by decide) (.inr rfl) (by first|exact dI rfl rfl|exact cX hN rfl rfl rfl rfl|exact cH hN rfl rfl rfl rfl rfl|(simp (disch:=first|decide|omega|(simp only [List.length_cons,List.length_nil];omega)) only [bH,bM,bP,bQ,go_sem,beq_self_eq_true,↓ax,↓ak hN,an hN,reduceIte,reduceCtorEq,Nat.reduceAdd,Nat.reduceLT,Nat.reduceLeDiff,Nat.reduceEqDiff,Nat.reduceSub];rfl)|rfl) ?_ fun νs hνs=>?_;(repeat' (first|exact Gone.nil|(refine Gone.cons rfl rfl ?_ ?_)|(with_reducible refine fO ?_)|(with_reducible refine fN ?_)|(with_reducible refine SVs.cons ?_ ?_)|(with_reducible exact SVs.nil)|(simp only [List.drop,List.take])|(simp (disch:=first|decide|omega) only [↓ax,reduceIte,reduceCtorEq,Nat.reduceEqDiff])|(with_reducible exact my _)|(with_reducible exact fL _)|(exact fM rfl rfl rfl)|(exact iM 0 (by simp) rfl rfl)|(refine iL hN rfl (fP hN (by decide)) ?_)|(with_reducible refine iK ?_)|(with_reducible rfl)|(with_reducible refine mz ?_)|(with_reducible refine mA ?_)|(with_reducible refine mB ?_)|(with_reducible refine mC ?_)|(with_reducible refine kr ?_)|(refine am ?_;omega))))
   all_goals rfl
set_option maxRecDepth 100000 in
theorem oJ (x u : Value) (g : Pa) (xs : List Int) (who mine yours : Int) (D : Nat) (h : cP g xs who D mine yours) (w : World) (hP : IsP w x g) (hI : IsI w u xs) :
  Calls Try.prog 19 #[x,u,.int .i64 who,.int .i64 D,.int .i64 mine,.int .i64 yours] w (dN w (lst (qR (pgA g) (qA (pgA g) g.prio.length D) who D mine yours fun v=>(v : Int) ∈ xs) g.prio.length)):=by
 obtain ⟨hs,hQ⟩:=id h
 have hw:=hQ.2.1
 have hD:=hQ.2.2.2.1
 have hm : 0 ≤ mine ∧ mine < 16:=by have:=hQ.2.2.2.2.2.2;omega
 have hy : 0 ≤ yours ∧ yours < 16:=by have:=hQ.2.2.2.2.2.2;omega
 have hf:=nG h
 have HR:=(kB g hs D (by omega)).1
 have hP0:=hP
 obtain ⟨_,_,_,rfl,⟨s1,n1,c1,rfl,h1⟩,⟨s2,n2,c2,rfl,h2⟩,⟨s3,n3,c3,rfl,h3⟩⟩:=hP
 obtain ⟨s4,n4,c4,rfl,h4⟩:=id hI
 have k1:=Lib.hid (aA hs)
 have k2:=Lib.hid (aA hQ)
 have HS:=Lib.hid hs
 have HW:=Lib.hid hw
 have HM:=Lib.hid hm
 have HY:=Lib.hid hy
 clear hs hQ hw hD hm hy h
 go_enter Try.func19,Try.ntmps19
 go_wp2_with fail
 have hB : Blk (w.alloc (.cells #[.slice s1 n1 c1,.slice s2 n2 c2,.slice s3 n3 c3] 32)) w.heap.size [.slice s1 n1 c1,.slice s2 n2 c2,.slice s3 n3 c3] 32:=cr _ _ _
 have hbw : Below w.heap.size w (w.alloc (.cells #[.slice s1 n1 c1,.slice s2 n2 c2,.slice s3 n3 c3] 32)):=ay _ _
 generalize w.alloc (.cells #[.slice s1 n1 c1,.slice s2 n2 c2,.slice s3 n3 c3] 32) = w1 at *
 have b0:=hB.cell 0 rfl
 have b1:=hB.cell 1 rfl
 have b2:=hB.cell 2 rfl
 go_wp2_with (first
  | (go_at_call 50; refine (lN _ _ _ (hP0.below hbw)).mono ?_; rw [k1.out]; rintro e w2 ⟨rfl, hbw2⟩; replace b0 := ah b0 hbw2; replace b1 := ah b1 hbw2; replace b2 := ah b2 hbw2; replace hbw : Below w.heap.size w w2 := hbw.trans (hbw2.mono hbw.size))
  | (go_at_call 51; refine (jd _ _ _ HS.out.1 _ _ _ _ _ _ (hP0.below hbw) (hI.below hbw)).mono ?_; rw [k2.out]; rintro e w3 ⟨rfl, hbw3⟩; replace b0 := ah b0 hbw3; replace b1 := ah b1 hbw3; replace b2 := ah b2 hbw3; replace hbw : Below w.heap.size w w3 := hbw.trans (hbw3.mono hbw.size); have hz2 := hbw2.size; have hz3 := hbw3.size; have hzz := hbw.size; have hlt3 : w.heap.size < w3.heap.size := (by have := hB.lt; omega))
  | (go_at_call 52; refine (jc _ _ _ (hP0.below hbw)).mono ?_; rintro e w4 ⟨bs, bm, rfl, hK, hbm, hbw4⟩; replace b0 := ah b0 hbw4; replace b1 := ah b1 hbw4; replace b2 := ah b2 hbw4; replace hbw : Below w.heap.size w w4 := hbw.trans (hbw4.mono hbw.size))
  | (go_at_call 57; refine (HR bs bm _ who (fun v => (v : Int) ∈ xs) D mine yours _ rfl HW.out HM.out HY.out hf.inn hK (by rw [← hf.lis]; exact hI.below hbw)).mono ?_; rintro e w5 ⟨s5, n5, c5, rfl, ho5, hK5, hM5⟩))
 go_ret
 have hz:=hbw.size
 exact ⟨s5,n5,c5,rfl,az.mono ho5 (by omega) (Nat.le_refl _),hbw.trans (hM5.below (by omega) (by omega))⟩
theorem jP (x u : Value) (g : Pa) (xs : List Int) (who d mine yours : Int) (w : World) (hP : IsP w x g) (hI : IsI w u xs) :
  Calls Try.prog 19 #[x,u,.int .i64 who,.int .i64 d,.int .i64 mine,.int .i64 yours] w (dN w (ja g xs who d mine yours)):=by
 by_cases h : cP g xs who d mine yours
 · obtain ⟨D,rfl⟩ : ∃ D : Nat,d = D:=⟨d.toNat,by have:=h.2.2.2.1;omega⟩
   rw [ja,if_pos h,Int.toNat_natCast]
   exact oJ x u g xs who mine yours D h w hP hI
 · rw [ja,if_neg h]
   exact lC (vs:=[x,u,.int .i64 who,.int .i64 d,.int .i64 mine,.int .i64 yours]) (mO g xs who d mine yours h) (.cons (ov hP) (.cons (gZ hI) (.cons (dV _ _) (.cons (dV _ _) (.cons (dV _ _) (.cons (dV _ _) .nil))))))
theorem oK (x u : Value) (g : Pa) (xs : List Int) (who d mine yours : Int) (w : World) (hP : IsP w x g) (hI : IsI w u xs) :
  Calls Try.prog 18 #[x,u,.int .i64 who,.int .i64 d,.int .i64 mine,.int .i64 yours] w (dN w (ja g xs who d mine yours)):=by
 have ha:=AVs.cons (ov hP) (.cons (gZ hI) (.cons (dV (w:=w) .i64 who) (.cons (dV .i64 d) (.cons (dV .i64 mine) (.cons (dV .i64 yours) .nil)))))
 by_cases h : cP g xs who d mine yours
 · obtain ⟨D,rfl⟩ : ∃ D : Nat,d = D:=⟨d.toNat,by have:=h.2.2.2.1;omega⟩
   rw [ja,if_pos h,Int.toNat_natCast]
   exact fB (vs:=[x,u,.int .i64 who,.int .i64 D,.int .i64 mine,.int .i64 yours]) (mN g xs who mine yours D h) rfl ha
 · rw [ja,if_neg h]
   exact fB (vs:=[x,u,.int .i64 who,.int .i64 d,.int .i64 mine,.int .i64 yours]) (lL g xs who d mine yours h) rfl ha
theorem lO (g : Pa) (xs : List Int) (who d mine yours : Int) (h : ¬ cP g xs who d mine yours) : aw Try.prog 12 [paA g,.c (.I xs),.c (.int .i64 who),.c (.int .i64 d),.c (.int .i64 mine),.c (.int .i64 yours)] [] (fun _=>.c .nul):=by
 by_cases hs : dJ g
 · have h1:=e8 g
   rw [aA hs] at h1
   have h2:=gH g hs.1 xs who d mine yours
   rw [aq fun h'=>h ⟨hs,h'⟩] at h2
   (refine aV aS Try.func12 rfl rfl (by kernel_rfl) fun hp0 ν hX hN=>?_;simp only [ca,Nat.reduceAdd])
   (repeat' (first|(with_reducible first|(apply hK;clear hK K)|refine stZ ?_|refine aX rfl ?_|((first|apply ae|apply af);clear ae X af Y))|(with_reducible refine a8 ?_;first|refine aY rfl ?_|refine aZ rfl ?_)|(with_reducible refine bz ?_;first|refine be rfl rfl rfl rfl ?_|refine bv rfl rfl rfl ?_|refine bN rfl rfl rfl rfl ?_)|((first|(with_reducible first|((first|refine bc ?_|refine bd ?_);intro K hK)|(refine aC ?_;intro X Y ae af)|refine aD ?_)|(with_reducible refine bz ?_;refine bf rfl rfl fun X Y ae af=>?_));simp (disch:=first|decide|omega|(simp only [List.length_cons,List.length_nil];omega)) only [go_sem,↓ak hN,an hN,reduceIte,reduceCtorEq,Nat.reduceAdd,Nat.reduceLT,Nat.reduceLeDiff,Nat.reduceEqDiff,Nat.reduceSub])|(with_reducible refine And.intro (fun h=>?_) (fun h=>?_) <;> try (exfalso;omega))|(with_reducible refine ba aS hN ?_)|((first|refine aB (h1) ?_ rfl (fun _=>rfl) ?_|refine aB (h2) ?_ rfl (fun _=>rfl) ?_);focus ((repeat' (first|(with_reducible first|exact au|refine ap ?_ ?_|exact bF _|refine aH ?_|exact aJ _|exact bi _ _|refine bh ?_|exact aF _)|exact aI hN rfl rfl|(refine bg hN rfl ?_;first|exact aP _|exact aQ _)|exact aG rfl rfl rfl));done))|(with_reducible first|exact au|refine ap ?_ ?_|exact bF _|refine aH ?_|exact aJ _|exact bi _ _|refine bh ?_|exact aF _)|exact aI hN rfl rfl|(refine bg hN rfl ?_;first|exact aP _|exact aQ _)|exact aG rfl rfl rfl|(simp only [aT,List.map_nil])|(with_reducible refine bC ?_)|(with_reducible refine And.intro ?_ ?_)|(refine am ?_;omega)|(exact a9 hN (by decide))))
   (refine iN hN [] (by decide) (.inr rfl) (by first|exact dI rfl rfl|exact cX hN rfl rfl rfl rfl|exact cH hN rfl rfl rfl rfl rfl|(simp (disch:=first|decide|omega|(simp only [List.length_cons,List.length_nil];omega)) only [bH,bM,bP,bQ,go_sem,beq_self_eq_true,↓ax,↓ak hN,an hN,reduceIte,reduceCtorEq,Nat.reduceAdd,Nat.reduceLT,Nat.reduceLeDiff,Nat.reduceEqDiff,Nat.reduceSub];rfl)|rfl) ?_ fun νs hνs=>?_;(repeat' (first|exact Gone.nil|(refine Gone.cons rfl rfl ?_ ?_)|(with_reducible refine fO ?_)|(with_reducible refine fN ?_)|(with_reducible refine SVs.cons ?_ ?_)|(with_reducible exact SVs.nil)|(simp only [List.drop,List.take])|(simp (disch:=first|decide|omega) only [↓ax,reduceIte,reduceCtorEq,Nat.reduceEqDiff])|(with_reducible exact my _)|(with_reducible exact fL _)|(exact fM rfl rfl rfl)|(exact iM 0 (by simp) rfl rfl)|(refine iL hN rfl (fP hN (by decide)) ?_)|(with_reducible refine iK ?_)|(with_reducible rfl)|(with_reducible refine mz ?_)|(with_reducible refine mA ?_)|(with_reducible refine mB ?_)|(with_reducible refine mC ?_)|(with_reducible refine kr ?_)|(refine am ?_;omega))))
   all_goals rfl
 · have h1:=e8 g
   rw [aq hs] at h1
   (refine aV aS Try.func12 rfl rfl (by kernel_rfl) fun hp0 ν hX hN=>?_;simp only [ca,Nat.reduceAdd])
   (repeat' (first|(with_reducible first|(apply hK;clear hK K)|refine stZ ?_|refine aX rfl ?_|((first|apply ae|apply af);clear ae X af Y))|(with_reducible refine a8 ?_;first|refine aY rfl ?_|refine aZ rfl ?_)|(with_reducible refine bz ?_;first|refine be rfl rfl rfl rfl ?_|refine bv rfl rfl rfl ?_|refine bN rfl rfl rfl rfl ?_)|((first|(with_reducible first|((first|refine bc ?_|refine bd ?_);intro K hK)|(refine aC ?_;intro X Y ae af)|refine aD ?_)|(with_reducible refine bz ?_;refine bf rfl rfl fun X Y ae af=>?_));simp (disch:=first|decide|omega|(simp only [List.length_cons,List.length_nil];omega)) only [go_sem,↓ak hN,an hN,reduceIte,reduceCtorEq,Nat.reduceAdd,Nat.reduceLT,Nat.reduceLeDiff,Nat.reduceEqDiff,Nat.reduceSub])|(with_reducible refine And.intro (fun h=>?_) (fun h=>?_) <;> try (exfalso;omega))|(with_reducible refine ba aS hN ?_)|(refine aB (h1) ?_ rfl (fun _=>rfl) ?_;focus ((repeat' (first|(with_reducible first|exact au|refine ap ?_ ?_|exact bF _|refine aH ?_|exact aJ _|exact bi _ _|refine bh ?_|exact aF _)|exact aI hN rfl rfl|(refine bg hN rfl ?_;first|exact aP _|exact aQ _)|exact aG rfl rfl rfl));done))|(with_reducible first|exact au|refine ap ?_ ?_|exact bF _|refine aH ?_|exact aJ _|exact bi _ _|refine bh ?_|exact aF _)|exact aI hN rfl rfl|(refine bg hN rfl ?_;first|exact aP _|exact aQ _)|exact aG rfl rfl rfl|(simp only [aT,List.map_nil])|(with_reducible refine bC ?_)|(with_reducible refine And.intro ?_ ?_)|(refine am ?_;omega)|(exact a9 hN (by decide))))
   (refine iN hN [] (by decide) (.inr rfl) (by first|exact dI rfl rfl|exact cX hN rfl rfl rfl rfl|exact cH hN rfl rfl rfl rfl rfl|(simp (disch:=first|decide|omega|(simp only [List.length_cons,List.length_nil];omega)) only [bH,bM,bP,bQ,go_sem,beq_self_eq_true,↓ax,↓ak hN,an hN,reduceIte,reduceCtorEq,Nat.reduceAdd,Nat.reduceLT,Nat.reduceLeDiff,Nat.reduceEqDiff,Nat.reduceSub];rfl)|rfl) ?_ fun νs hνs=>?_;(repeat' (first|exact Gone.nil|(refine Gone.cons rfl rfl ?_ ?_)|(with_reducible refine fO ?_)|(with_reducible refine fN ?_)|(with_reducible refine SVs.cons ?_ ?_)|(with_reducible exact SVs.nil)|(simp only [List.drop,List.take])|(simp (disch:=first|decide|omega) only [↓ax,reduceIte,reduceCtorEq,Nat.reduceEqDiff])|(with_reducible exact my _)|(with_reducible exact fL _)|(exact fM rfl rfl rfl)|(exact iM 0 (by simp) rfl rfl)|(refine iL hN rfl (fP hN (by decide)) ?_)|(with_reducible refine iK ?_)|(with_reducible rfl)|(with_reducible refine mz ?_)|(with_reducible refine mA ?_)|(with_reducible refine mB ?_)|(with_reducible refine mC ?_)|(with_reducible refine kr ?_)|(refine am ?_;omega))))
   all_goals rfl
set_option maxRecDepth 100000 in
theorem mP (x u : Value) (g : Pa) (xs : List Int) (who mine yours : Int) (D : Nat) (h : cP g xs who D mine yours) (w : World) (hP : IsP w x g) (hI : IsI w u xs) :
  Calls Try.prog 12 #[x,u,.int .i64 who,.int .i64 D,.int .i64 mine,.int .i64 yours] w (dN w (lst (qA (pgA g) g.prio.length (D + 1) who (fun v=>(v : Int) ∈ xs) mine yours) g.prio.length)):=by
 obtain ⟨hs,hQ⟩:=id h
 have hw:=hQ.2.1
 have hD:=hQ.2.2.2.1
 have hm : 0 ≤ mine ∧ mine < 16:=by have:=hQ.2.2.2.2.2.2;omega
 have hy : 0 ≤ yours ∧ yours < 16:=by have:=hQ.2.2.2.2.2.2;omega
 have hf:=nG h
 have HR:=(kB g hs D (by omega)).2.2
 have hP0:=hP
 obtain ⟨_,_,_,rfl,⟨s1,n1,c1,rfl,h1⟩,⟨s2,n2,c2,rfl,h2⟩,⟨s3,n3,c3,rfl,h3⟩⟩:=hP
 obtain ⟨s4,n4,c4,rfl,h4⟩:=id hI
 have k1:=Lib.hid (aA hs)
 have k2:=Lib.hid (aA hQ)
 have HS:=Lib.hid hs
 have HW:=Lib.hid hw
 have HM:=Lib.hid hm
 have HY:=Lib.hid hy
 clear hs hQ hw hD hm hy h
 go_enter Try.func12,Try.ntmps12
 go_wp2_with fail
 have hB : Blk (w.alloc (.cells #[.slice s1 n1 c1,.slice s2 n2 c2,.slice s3 n3 c3] 32)) w.heap.size [.slice s1 n1 c1,.slice s2 n2 c2,.slice s3 n3 c3] 32:=cr _ _ _
 have hbw : Below w.heap.size w (w.alloc (.cells #[.slice s1 n1 c1,.slice s2 n2 c2,.slice s3 n3 c3] 32)):=ay _ _
 generalize w.alloc (.cells #[.slice s1 n1 c1,.slice s2 n2 c2,.slice s3 n3 c3] 32) = w1 at *
 have b0:=hB.cell 0 rfl
 have b1:=hB.cell 1 rfl
 have b2:=hB.cell 2 rfl
 go_wp2_with (first
  | (go_at_call 50; refine (lN _ _ _ (hP0.below hbw)).mono ?_; rw [k1.out]; rintro e w2 ⟨rfl, hbw2⟩; replace b0 := ah b0 hbw2; replace b1 := ah b1 hbw2; replace b2 := ah b2 hbw2; replace hbw : Below w.heap.size w w2 := hbw.trans (hbw2.mono hbw.size))
  | (go_at_call 51; refine (jd _ _ _ HS.out.1 _ _ _ _ _ _ (hP0.below hbw) (hI.below hbw)).mono ?_; rw [k2.out]; rintro e w3 ⟨rfl, hbw3⟩; replace b0 := ah b0 hbw3; replace b1 := ah b1 hbw3; replace b2 := ah b2 hbw3; replace hbw : Below w.heap.size w w3 := hbw.trans (hbw3.mono hbw.size); have hz2 := hbw2.size; have hz3 := hbw3.size; have hzz := hbw.size; have hlt3 : w.heap.size < w3.heap.size := (by have := hB.lt; omega))
  | (go_at_call 52; refine (jc _ _ _ ((hP0.below hbw).below (ay _ _))).mono ?_; rintro e w4 ⟨bs, bm, rfl, hK, hbm, hb4⟩; have hB4 : Below w3.heap.size w3 w4 := (ay _ _).trans (hb4.mono (by simp))))
 refine (HR bs bm _ who (fun v=>(v : Int) ∈ xs) D mine yours _ rfl HW.out HM.out HY.out hf.inn hK (hf.lis ▸ (hI.below hbw).below hB4)).mono ?_
 rintro e w5 ⟨s5,n5,c5,rfl,hI5,hK5,hM5⟩
 have hx5:=az.out (az.below (g9 w3.heap.size w3 0 (Nat.le_refl _)) hb4) hM5.out (.inl hbm)
 have hz5:=hM5.out.size
 have hz4:=hb4.size
 simp only [World.size_alloc] at hz4 hbm
 have hl5:=(IsI.ints hI5).1
 go_wp2_with (refine qb (by rfl) _ _ (by rfl) _ (by rfl) (hx5.mono (Nat.le_refl _) (by simp;omega)) (by omega) (by rfl) (IsI.ints hI5) (by have:=cZ (qA (pgA g) g.prio.length (D + 1) who (fun v=>(v : Int) ∈ xs) mine yours) g.prio.length;have:=HS.out.2;omega) ?_;intro s6 c6 w6 ho6 hb6)
 go_ret
 exact ⟨s6,n5,c6,rfl,az.mono ho6 (by omega) (Nat.le_refl _),hbw.trans ((hB4.mono (by omega)).trans ((hM5.below (by omega) (by omega)).trans (hb6.mono (by omega))))⟩
theorem je (x u : Value) (g : Pa) (xs : List Int) (who d mine yours : Int) (w : World) (hP : IsP w x g) (hI : IsI w u xs) :
  Calls Try.prog 12 #[x,u,.int .i64 who,.int .i64 d,.int .i64 mine,.int .i64 yours] w (dN w (jb g xs who d mine yours)):=by
 by_cases h : cP g xs who d mine yours
 · obtain ⟨D,rfl⟩ : ∃ D : Nat,d = D:=⟨d.toNat,by have:=h.2.2.2.1;omega⟩
   rw [jb,if_pos h,Int.toNat_natCast]
   exact mP x u g xs who mine yours D h w hP hI
 · rw [jb,if_neg h]
   exact lC (vs:=[x,u,.int .i64 who,.int .i64 d,.int .i64 mine,.int .i64 yours]) (lO g xs who d mine yours h) (.cons (ov hP) (.cons (gZ hI) (.cons (dV _ _) (.cons (dV _ _) (.cons (dV _ _) (.cons (dV _ _) .nil))))))
theorem mQ (x u : Value) (g : Pa) (xs : List Int) (who d mine yours : Int) (w : World) (hP : IsP w x g) (hI : IsI w u xs) :
  Calls Try.prog 9 #[x,u,.int .i64 who,.int .i64 d,.int .i64 mine,.int .i64 yours] w (dN w (jb g xs who d mine yours)):=by
 have ha:=AVs.cons (ov hP) (.cons (gZ hI) (.cons (dV (w:=w) .i64 who) (.cons (dV .i64 d) (.cons (dV .i64 mine) (.cons (dV .i64 yours) .nil)))))
 by_cases h : cP g xs who d mine yours
 · obtain ⟨D,rfl⟩ : ∃ D : Nat,d = D:=⟨d.toNat,by have:=h.2.2.2.1;omega⟩
   rw [jb,if_pos h,Int.toNat_natCast]
   exact fB (vs:=[x,u,.int .i64 who,.int .i64 D,.int .i64 mine,.int .i64 yours]) (lM g xs who mine yours D h) rfl ha
 · rw [jb,if_neg h]
   exact fB (vs:=[x,u,.int .i64 who,.int .i64 d,.int .i64 mine,.int .i64 yours]) (kz g xs who d mine yours h) rfl ha
end Go.Proofs.Ythjamlponejffaa
