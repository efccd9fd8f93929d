/-
  RoundOf and AnsweredTo, the program.
-/
import Derived.Test.YthjamlponejffaaZhNG
import Derived.Test.YthjamlponejffaaZhNH
import Derived.Test.YthjamlponejffaaZhLaw
namespace Go.Proofs.Ythjamlponejffaa
set_option linter.unusedVariables false
set_option linter.unusedSimpArgs false
open Go.RowKit
attribute [local irreducible] ap b7 Aw Le
attribute [local go_sem ↓] Go.wp_at_zero Go.wp_at_succ
section
variable {w : World} {o : Oper} {a : Act} {Q : Exit → Act → World → Prop} {K : Act → World → Prop}
theorem lY (s x : Operand) (hop : o.op = .call { callee:=.builtin .append,args:=#[s,x],argTypes:=#[22,22] })
  (b : Addr) (hs : a.eval s = .slice (some b) 0 0) {sx : Option Addr} {c : Nat} (hx : a.eval x = .slice sx 0 c) (hK : K (a.put o.dst (.slice (some b) 0 0)) w) : o.wp Try.prog a w K Q:=by
 have hu:=Try.underlying22
 unfold Oper.wp execOp
 cases sx with
 | none =>
   simp only [hop,resolve,invoke,builtin,Sem.run_bind,Sem.run_pure,Result.andThen_ok,List.map_toArray,List.map_cons,List.map_nil,hs,hx]
   go_simp
   exact hK
 | some ad =>
   simp only [hop,resolve,invoke,builtin,Sem.run_bind,Sem.run_pure,Result.andThen_ok,List.map_toArray,List.map_cons,List.map_nil,hs,hx]
   go_simp
   exact hK
theorem sL {ops : Array Oper} {rest : List Oper} (hg : o.guard = none) (s x : Operand) (hop : o.op = .call { callee:=.builtin .append,args:=#[s,x],argTypes:=#[22,22] })
  (b : Addr) (hs : a.eval s = .slice (some b) 0 0) {lo : Nat} (hb : bp lo w.heap.size w (.slice (some b) 0 0) []) (hlo : lo ≤ w.heap.size) {sx : Option Addr} {m c : Nat} {ys : List Int} (hx : a.eval x = .slice sx m c) (hI : cQ w sx m c ys) (hn : m ≤ 1048576)
  (hK : ∀ sa c' w',bp lo w'.heap.size w' (.slice sa m c') ys → Below w.heap.size w w' → wpList Try.prog ops Q rest (a.put o.dst (.slice sa m c')) w') : wpList Try.prog ops Q (o :: rest) a w:=by
 rcases Nat.eq_zero_or_pos m with e|e
 · subst e
   have h0 : ys = []:=List.eq_nil_of_length_eq_zero hI.1
   subst h0
   exact wpList_plain hg fun _ hK'=>lY s x hop b hs hx (hK' _ _ (hK _ _ _ hb (Below.refl _ _)))
 · exact kC hg s x hop b hs hx hI e hn fun sa c' w' h1 h2=>hK sa c' w' (bp.mono h1 hlo (Nat.le_refl _)) h2
end
theorem jC (g : Pa) (hs : dA g) : ∀ D,D < 50 → sF g D ∧ wm g D ∧ wk g D
 | 0, _ => by
   have h1:=uG g hs
   have h2:=m8 g hs 0 (by omega) h1
   exact ⟨h1,h2,m9 g hs 0 (by omega) h1 h2⟩
 | D + 1, h => by
   have h1:=uH g hs D (by omega) (jC g hs D (by omega)).2.2
   have h2:=m8 g hs (D + 1) (by omega) h1
   exact ⟨h1,h2,m9 g hs (D + 1) (by omega) h1 h2⟩
set_option maxRecDepth 100000 in
theorem g7 (x : Value) (g : Pa) (w : World) (hP : IsP w x g) : Calls Try.prog 52 #[x] w fun e w'=>∃ bs bm,e = .returned (.pointer (some ⟨bs,0,none⟩)) ∧ Ask w' bs bm g ∧ w.heap.size ≤ bm ∧ Below w.heap.size w w':=by
 have hP0:=hP
 obtain ⟨_,_,_,rfl,⟨s1,n1,c1,rfl,h1⟩,⟨s2,n2,c2,rfl,h2⟩,⟨s3,n3,c3,rfl,h3⟩⟩:=hP
 have hmm:=@run_makeMap Try.prog
 go_enter Try.func52,Try.ntmps52
 go_wp2_with fail
 have e1 : (w.alloc (.cells #[.slice s1 n1 c1,.slice s2 n2 c2,.slice s3 n3 c3] 32)).heap.size = w.heap.size + 1:=by simp
 have hA:=bg w (.cells #[.slice s1 n1 c1,.slice s2 n2 c2,.slice s3 n3 c3] 32)
 generalize w.alloc (.cells #[.slice s1 n1 c1,.slice s2 n2 c2,.slice s3 n3 c3] 32) = wA at *
 have hO:=World.ownsMap_made wA Try.prog 102 rdV
 have e2 : (wA.alloc (.map #[] 0)).heap.size = w.heap.size + 1 + 1:=by simp [e1]
 have hM:=bg wA (.map #[] 0)
 rw [e1] at hO
 generalize wA.alloc (.map #[] 0) = wM at *
 have hB:=dR wM [.slice s1 n1 c1,.slice s2 n2 c2,.slice s3 n3 c3,.map (some (w.heap.size + 1))] 100
 have hC:=bg wM (.cells #[.slice s1 n1 c1,.slice s2 n2 c2,.slice s3 n3 c3,.map (some (w.heap.size + 1))] 100)
 rw [e2] at hB
 go_ret
 have hP3 : IsP (wM.alloc (.cells #[.slice s1 n1 c1,.slice s2 n2 c2,.slice s3 n3 c3,.map (some (w.heap.size + 1))] 100)) (.agg #[.slice s1 n1 c1,.slice s2 n2 c2,.slice s3 n3 c3]) g:=((hP0.below hA).below hM).below hC
 exact ⟨w.heap.size + 1 + 1,w.heap.size + 1,rfl,⟨⟨s1,n1,c1,s2,n2,c2,s3,n3,c3,hB.cell 0 rfl,hB.cell 1 rfl,hB.cell 2 rfl,hP3⟩,hB.cell 3 rfl,0,_,hO.alloc _,fun p hp=>by cases hp⟩,by omega,hA.trans ((hM.mono (by omega)).trans (hC.mono (by omega)))⟩
theorem kd (x : Value) (g : Pa) (w : World) (hP : IsP w x g) : Calls Try.prog 50 #[x] w fun e w'=>e = .returned (.bool (tf (dA g))) ∧ Below w.heap.size w w' :=
 lP (vs:=[x]) (fq g) (.cons (qm hP) .nil)
theorem ke (x u : Value) (g : Pa) (hg : PaOk g) (xs : List Int) (who d mine yours : Int) (w : World) (hP : IsP w x g) (hI : IsI w u xs) : Calls Try.prog 51 #[x,u,.int .i64 who,.int .i64 d,.int .i64 mine,.int .i64 yours] w fun e w'=>e = .returned (.bool (tf (iv g xs who d mine yours))) ∧ Below w.heap.size w w' :=
 lP (vs:=[x,u,.int .i64 who,.int .i64 d,.int .i64 mine,.int .i64 yours]) (iT g hg xs who d mine yours) (.cons (qm hP) (.cons (jW hI) (.cons (iP _ _) (.cons (iP _ _) (.cons (iP _ _) (.cons (iP _ _) .nil))))))
theorem oz (g : Pa) (xs : List Int) (who d mine yours : Int) (h : ¬ gR g xs who d mine yours) : ap Try.prog 19 [paA g,.c (.I xs),.c (.int .i64 who),.c (.int .i64 d),.c (.int .i64 mine),.c (.int .i64 yours)] [] (fun _=>.c .nul):=by
 by_cases hs : dA g
 · have h1:=fq g
   rw [bc hs] at h1
   have h2:=iT g hs.1 xs who d mine yours
   rw [aH fun h'=>h ⟨hs,h'⟩] at h2
   (refine bf aI Try.func19 rfl rfl (by kernel_rfl) fun hp0 ν hX hN=>?_;simp only [bW,Nat.reduceAdd])
   (repeat' (first|(with_reducible first|(apply hK;clear hK K)|refine stZ ?_|refine aT rfl ?_|((first|apply ae|apply af);clear ae X af Y))|(with_reducible refine aW ?_;first|refine aU rfl ?_|refine aV rfl ?_)|(with_reducible refine bv ?_;first|refine bd rfl rfl rfl rfl ?_|refine bt rfl rfl rfl ?_|refine bI rfl rfl rfl rfl ?_)|((first|(with_reducible first|((first|refine aZ ?_|refine a8 ?_);intro K hK)|(refine aE ?_;intro X Y ae af)|refine aF ?_)|(with_reducible refine bv ?_;refine be rfl rfl fun X Y ae af=>?_));simp (disch:=first|decide|omega|(simp only [List.length_cons,List.length_nil];omega)) only [go_sem,↓aj hN,ak hN,reduceIte,reduceCtorEq,Nat.reduceAdd,Nat.reduceLT,Nat.reduceLeDiff,Nat.reduceEqDiff,Nat.reduceSub])|(with_reducible refine And.intro (fun h=>?_) (fun h=>?_) <;> try (exfalso;omega))|(with_reducible refine aY aI hN ?_)|((first|refine aB (h1) ?_ rfl (fun _=>rfl) ?_|refine aB (h2) ?_ rfl (fun _=>rfl) ?_);focus ((repeat' (first|(with_reducible first|exact aq|refine am ?_ ?_|exact bH _|refine aM ?_|exact aL _|exact bj _ _|refine bi ?_|exact aJ _)|exact aN hN rfl rfl|(refine bh hN rfl ?_;first|exact aC _|exact aD _)|exact aK rfl rfl rfl));done))|(with_reducible first|exact aq|refine am ?_ ?_|exact bH _|refine aM ?_|exact aL _|exact bj _ _|refine bi ?_|exact aJ _)|exact aN hN rfl rfl|(refine bh hN rfl ?_;first|exact aC _|exact aD _)|exact aK rfl rfl rfl|(simp only [ba,List.map_nil])|(with_reducible refine bu ?_)|(with_reducible refine And.intro ?_ ?_)|(refine ah ?_;omega)|(exact aX hN (by decide))))
   (refine dY hN [] (by decide) (.inr rfl) (by first|exact bZ rfl rfl|exact bU hN rfl rfl rfl rfl|exact bQ hN rfl rfl rfl rfl rfl|(simp (disch:=first|decide|omega|(simp only [List.length_cons,List.length_nil];omega)) only [bG,bK,bN,bO,go_sem,beq_self_eq_true,↓ao,↓aj hN,ak hN,reduceIte,reduceCtorEq,Nat.reduceAdd,Nat.reduceLT,Nat.reduceLeDiff,Nat.reduceEqDiff,Nat.reduceSub];rfl)|rfl) ?_ fun νs hνs=>?_;(repeat' (first|exact Gone.nil|(refine Gone.cons rfl rfl ?_ ?_)|(with_reducible refine di ?_)|(with_reducible refine dh ?_)|(with_reducible refine SVs.cons ?_ ?_)|(with_reducible exact SVs.nil)|(simp only [List.drop,List.take])|(simp (disch:=first|decide|omega) only [↓ao,reduceIte,reduceCtorEq,Nat.reduceEqDiff])|(with_reducible exact ge _)|(with_reducible exact df _)|(exact dg rfl rfl rfl)|(exact dI 0 (by simp) rfl rfl)|(refine dW hN rfl (dj hN (by decide)) ?_)|(with_reducible refine dV ?_)|(with_reducible rfl)|(with_reducible refine gj ?_)|(with_reducible refine gl ?_)|(with_reducible refine gm ?_)|(with_reducible refine fV ?_)|(with_reducible refine fK ?_)|(refine ah ?_;omega))))
   all_goals rfl
 · have h1:=fq g
   rw [aH hs] at h1
   (refine bf aI Try.func19 rfl rfl (by kernel_rfl) fun hp0 ν hX hN=>?_;simp only [bW,Nat.reduceAdd])
   (repeat' (first|(with_reducible first|(apply hK;clear hK K)|refine stZ ?_|refine aT rfl ?_|((first|apply ae|apply af);clear ae X af Y))|(with_reducible refine aW ?_;first|refine aU rfl ?_|refine aV rfl ?_)|(with_reducible refine bv ?_;first|refine bd rfl rfl rfl rfl ?_|refine bt rfl rfl rfl ?_|refine bI rfl rfl rfl rfl ?_)|((first|(with_reducible first|((first|refine aZ ?_|refine a8 ?_);intro K hK)|(refine aE ?_;intro X Y ae af)|refine aF ?_)|(with_reducible refine bv ?_;refine be rfl rfl fun X Y ae af=>?_));simp (disch:=first|decide|omega|(simp only [List.length_cons,List.length_nil];omega)) only [go_sem,↓aj hN,ak hN,reduceIte,reduceCtorEq,Nat.reduceAdd,Nat.reduceLT,Nat.reduceLeDiff,Nat.reduceEqDiff,Nat.reduceSub])|(with_reducible refine And.intro (fun h=>?_) (fun h=>?_) <;> try (exfalso;omega))|(with_reducible refine aY aI hN ?_)|(refine aB (h1) ?_ rfl (fun _=>rfl) ?_;focus ((repeat' (first|(with_reducible first|exact aq|refine am ?_ ?_|exact bH _|refine aM ?_|exact aL _|exact bj _ _|refine bi ?_|exact aJ _)|exact aN hN rfl rfl|(refine bh hN rfl ?_;first|exact aC _|exact aD _)|exact aK rfl rfl rfl));done))|(with_reducible first|exact aq|refine am ?_ ?_|exact bH _|refine aM ?_|exact aL _|exact bj _ _|refine bi ?_|exact aJ _)|exact aN hN rfl rfl|(refine bh hN rfl ?_;first|exact aC _|exact aD _)|exact aK rfl rfl rfl|(simp only [ba,List.map_nil])|(with_reducible refine bu ?_)|(with_reducible refine And.intro ?_ ?_)|(refine ah ?_;omega)|(exact aX hN (by decide))))
   (refine dY hN [] (by decide) (.inr rfl) (by first|exact bZ rfl rfl|exact bU hN rfl rfl rfl rfl|exact bQ hN rfl rfl rfl rfl rfl|(simp (disch:=first|decide|omega|(simp only [List.length_cons,List.length_nil];omega)) only [bG,bK,bN,bO,go_sem,beq_self_eq_true,↓ao,↓aj hN,ak hN,reduceIte,reduceCtorEq,Nat.reduceAdd,Nat.reduceLT,Nat.reduceLeDiff,Nat.reduceEqDiff,Nat.reduceSub];rfl)|rfl) ?_ fun νs hνs=>?_;(repeat' (first|exact Gone.nil|(refine Gone.cons rfl rfl ?_ ?_)|(with_reducible refine di ?_)|(with_reducible refine dh ?_)|(with_reducible refine SVs.cons ?_ ?_)|(with_reducible exact SVs.nil)|(simp only [List.drop,List.take])|(simp (disch:=first|decide|omega) only [↓ao,reduceIte,reduceCtorEq,Nat.reduceEqDiff])|(with_reducible exact ge _)|(with_reducible exact df _)|(exact dg rfl rfl rfl)|(exact dI 0 (by simp) rfl rfl)|(refine dW hN rfl (dj hN (by decide)) ?_)|(with_reducible refine dV ?_)|(with_reducible rfl)|(with_reducible refine gj ?_)|(with_reducible refine gl ?_)|(with_reducible refine gm ?_)|(with_reducible refine fV ?_)|(with_reducible refine fK ?_)|(refine ah ?_;omega))))
   all_goals rfl
set_option maxRecDepth 100000 in
theorem qN (x u : Value) (g : Pa) (xs : List Int) (who mine yours : Int) (D : Nat) (h : gR g xs who D mine yours) (w : World) (hP : IsP w x g) (hI : IsI w u xs) :
  Calls Try.prog 19 #[x,u,.int .i64 who,.int .i64 D,.int .i64 mine,.int .i64 yours] w (eg w (lst (qR (pgA g) (qA (pgA g) g.prio.length D) who D mine yours fun v=>(v : Int) ∈ xs) g.prio.length)):=by
 obtain ⟨hs,hQ⟩:=id h
 have hw:=hQ.2.1
 have hD:=hQ.2.2.2.1
 have hm : 0 ≤ mine ∧ mine < 16:=by have:=hQ.2.2.2.2.2.2;omega
 have hy : 0 ≤ yours ∧ yours < 16:=by have:=hQ.2.2.2.2.2.2;omega
 have hf:=sK h
 have HR:=(jC g hs D (by omega)).1
 have hP0:=hP
 obtain ⟨_,_,_,rfl,⟨s1,n1,c1,rfl,h1⟩,⟨s2,n2,c2,rfl,h2⟩,⟨s3,n3,c3,rfl,h3⟩⟩:=hP
 obtain ⟨s4,n4,c4,rfl,h4⟩:=id hI
 have k1:=Lib.hid (bc hs)
 have k2:=Lib.hid (bc hQ)
 have HS:=Lib.hid hs
 have HW:=Lib.hid hw
 have HM:=Lib.hid hm
 have HY:=Lib.hid hy
 clear hs hQ hw hD hm hy h
 go_enter Try.func19,Try.ntmps19
 go_wp2_with fail
 have hB : Blk (w.alloc (.cells #[.slice s1 n1 c1,.slice s2 n2 c2,.slice s3 n3 c3] 32)) w.heap.size [.slice s1 n1 c1,.slice s2 n2 c2,.slice s3 n3 c3] 32:=dR _ _ _
 have hbw : Below w.heap.size w (w.alloc (.cells #[.slice s1 n1 c1,.slice s2 n2 c2,.slice s3 n3 c3] 32)):=bg _ _
 generalize w.alloc (.cells #[.slice s1 n1 c1,.slice s2 n2 c2,.slice s3 n3 c3] 32) = w1 at *
 have b0:=hB.cell 0 rfl
 have b1:=hB.cell 1 rfl
 have b2:=hB.cell 2 rfl
 go_wp2_with (first
  | (go_at_call 50; refine (kd _ _ _ (hP0.below hbw)).mono ?_; rw [k1.out]; rintro e w2 ⟨rfl, hbw2⟩; replace b0 := bC b0 hbw2; replace b1 := bC b1 hbw2; replace b2 := bC b2 hbw2; replace hbw : Below w.heap.size w w2 := hbw.trans (hbw2.mono hbw.size))
  | (go_at_call 51; refine (ke _ _ _ HS.out.1 _ _ _ _ _ _ (hP0.below hbw) (hI.below hbw)).mono ?_; rw [k2.out]; rintro e w3 ⟨rfl, hbw3⟩; replace b0 := bC b0 hbw3; replace b1 := bC b1 hbw3; replace b2 := bC b2 hbw3; replace hbw : Below w.heap.size w w3 := hbw.trans (hbw3.mono hbw.size); have hz2 := hbw2.size; have hz3 := hbw3.size; have hzz := hbw.size; have hlt3 : w.heap.size < w3.heap.size := (by have := hB.lt; omega))
  | (go_at_call 52; refine (g7 _ _ _ (hP0.below hbw)).mono ?_; rintro e w4 ⟨bs, bm, rfl, hK, hbm, hbw4⟩; replace b0 := bC b0 hbw4; replace b1 := bC b1 hbw4; replace b2 := bC b2 hbw4; replace hbw : Below w.heap.size w w4 := hbw.trans (hbw4.mono hbw.size))
  | (go_at_call 57; refine (HR bs bm _ who (fun v => (v : Int) ∈ xs) D mine yours _ rfl HW.out HM.out HY.out hf.inn hK (by rw [← hf.lis]; exact hI.below hbw)).mono ?_; rintro e w5 ⟨s5, n5, c5, rfl, ho5, hK5, hM5⟩))
 go_ret
 have hz:=hbw.size
 exact ⟨s5,n5,c5,rfl,bp.mono ho5 (by omega) (Nat.le_refl _),hbw.trans (hM5.below (by omega) (by omega))⟩
theorem qO (x u : Value) (g : Pa) (xs : List Int) (who d mine yours : Int) (w : World) (hP : IsP w x g) (hI : IsI w u xs) :
  Calls Try.prog 19 #[x,u,.int .i64 who,.int .i64 d,.int .i64 mine,.int .i64 yours] w (eg w (qL g xs who d mine yours)):=by
 by_cases h : gR g xs who d mine yours
 · obtain ⟨D,rfl⟩ : ∃ D : Nat,d = D:=⟨d.toNat,by have:=h.2.2.2.1;omega⟩
   rw [qL,if_pos h,Int.toNat_natCast]
   exact qN x u g xs who mine yours D h w hP hI
 · rw [qL,if_neg h]
   exact j9 (vs:=[x,u,.int .i64 who,.int .i64 d,.int .i64 mine,.int .i64 yours]) (oz g xs who d mine yours h) (.cons (qm hP) (.cons (jW hI) (.cons (iP _ _) (.cons (iP _ _) (.cons (iP _ _) (.cons (iP _ _) .nil))))))
theorem nb (g : Pa) (xs : List Int) (who d mine yours : Int) (h : ¬ gR g xs who d mine yours) : ap Try.prog 12 [paA g,.c (.I xs),.c (.int .i64 who),.c (.int .i64 d),.c (.int .i64 mine),.c (.int .i64 yours)] [] (fun _=>.c .nul):=by
 by_cases hs : dA g
 · have h1:=fq g
   rw [bc hs] at h1
   have h2:=iT g hs.1 xs who d mine yours
   rw [aH fun h'=>h ⟨hs,h'⟩] at h2
   (refine bf aI Try.func12 rfl rfl (by kernel_rfl) fun hp0 ν hX hN=>?_;simp only [bW,Nat.reduceAdd])
   (repeat' (first|(with_reducible first|(apply hK;clear hK K)|refine stZ ?_|refine aT rfl ?_|((first|apply ae|apply af);clear ae X af Y))|(with_reducible refine aW ?_;first|refine aU rfl ?_|refine aV rfl ?_)|(with_reducible refine bv ?_;first|refine bd rfl rfl rfl rfl ?_|refine bt rfl rfl rfl ?_|refine bI rfl rfl rfl rfl ?_)|((first|(with_reducible first|((first|refine aZ ?_|refine a8 ?_);intro K hK)|(refine aE ?_;intro X Y ae af)|refine aF ?_)|(with_reducible refine bv ?_;refine be rfl rfl fun X Y ae af=>?_));simp (disch:=first|decide|omega|(simp only [List.length_cons,List.length_nil];omega)) only [go_sem,↓aj hN,ak hN,reduceIte,reduceCtorEq,Nat.reduceAdd,Nat.reduceLT,Nat.reduceLeDiff,Nat.reduceEqDiff,Nat.reduceSub])|(with_reducible refine And.intro (fun h=>?_) (fun h=>?_) <;> try (exfalso;omega))|(with_reducible refine aY aI hN ?_)|((first|refine aB (h1) ?_ rfl (fun _=>rfl) ?_|refine aB (h2) ?_ rfl (fun _=>rfl) ?_);focus ((repeat' (first|(with_reducible first|exact aq|refine am ?_ ?_|exact bH _|refine aM ?_|exact aL _|exact bj _ _|refine bi ?_|exact aJ _)|exact aN hN rfl rfl|(refine bh hN rfl ?_;first|exact aC _|exact aD _)|exact aK rfl rfl rfl));done))|(with_reducible first|exact aq|refine am ?_ ?_|exact bH _|refine aM ?_|exact aL _|exact bj _ _|refine bi ?_|exact aJ _)|exact aN hN rfl rfl|(refine bh hN rfl ?_;first|exact aC _|exact aD _)|exact aK rfl rfl rfl|(simp only [ba,List.map_nil])|(with_reducible refine bu ?_)|(with_reducible refine And.intro ?_ ?_)|(refine ah ?_;omega)|(exact aX hN (by decide))))
   (refine dY hN [] (by decide) (.inr rfl) (by first|exact bZ rfl rfl|exact bU hN rfl rfl rfl rfl|exact bQ hN rfl rfl rfl rfl rfl|(simp (disch:=first|decide|omega|(simp only [List.length_cons,List.length_nil];omega)) only [bG,bK,bN,bO,go_sem,beq_self_eq_true,↓ao,↓aj hN,ak hN,reduceIte,reduceCtorEq,Nat.reduceAdd,Nat.reduceLT,Nat.reduceLeDiff,Nat.reduceEqDiff,Nat.reduceSub];rfl)|rfl) ?_ fun νs hνs=>?_;(repeat' (first|exact Gone.nil|(refine Gone.cons rfl rfl ?_ ?_)|(with_reducible refine di ?_)|(with_reducible refine dh ?_)|(with_reducible refine SVs.cons ?_ ?_)|(with_reducible exact SVs.nil)|(simp only [List.drop,List.take])|(simp (disch:=first|decide|omega) only [↓ao,reduceIte,reduceCtorEq,Nat.reduceEqDiff])|(with_reducible exact ge _)|(with_reducible exact df _)|(exact dg rfl rfl rfl)|(exact dI 0 (by simp) rfl rfl)|(refine dW hN rfl (dj hN (by decide)) ?_)|(with_reducible refine dV ?_)|(with_reducible rfl)|(with_reducible refine gj ?_)|(with_reducible refine gl ?_)|(with_reducible refine gm ?_)|(with_reducible refine fV ?_)|(with_reducible refine fK ?_)|(refine ah ?_;omega))))
   all_goals rfl
 · have h1:=fq g
   rw [aH hs] at h1
   (refine bf aI Try.func12 rfl rfl (by kernel_rfl) fun hp0 ν hX hN=>?_;simp only [bW,Nat.reduceAdd])
   (repeat' (first|(with_reducible first|(apply hK;clear hK K)|refine stZ ?_|refine aT rfl ?_|((first|apply ae|apply af);clear ae X af Y))|(with_reducible refine aW ?_;first|refine aU rfl ?_|refine aV rfl ?_)|(with_reducible refine bv ?_;first|refine bd rfl rfl rfl rfl ?_|refine bt rfl rfl rfl ?_|refine bI rfl rfl rfl rfl ?_)|((first|(with_reducible first|((first|refine aZ ?_|refine a8 ?_);intro K hK)|(refine aE ?_;intro X Y ae af)|refine aF ?_)|(with_reducible refine bv ?_;refine be rfl rfl fun X Y ae af=>?_));simp (disch:=first|decide|omega|(simp only [List.length_cons,List.length_nil];omega)) only [go_sem,↓aj hN,ak hN,reduceIte,reduceCtorEq,Nat.reduceAdd,Nat.reduceLT,Nat.reduceLeDiff,Nat.reduceEqDiff,Nat.reduceSub])|(with_reducible refine And.intro (fun h=>?_) (fun h=>?_) <;> try (exfalso;omega))|(with_reducible refine aY aI hN ?_)|(refine aB (h1) ?_ rfl (fun _=>rfl) ?_;focus ((repeat' (first|(with_reducible first|exact aq|refine am ?_ ?_|exact bH _|refine aM ?_|exact aL _|exact bj _ _|refine bi ?_|exact aJ _)|exact aN hN rfl rfl|(refine bh hN rfl ?_;first|exact aC _|exact aD _)|exact aK rfl rfl rfl));done))|(with_reducible first|exact aq|refine am ?_ ?_|exact bH _|refine aM ?_|exact aL _|exact bj _ _|refine bi ?_|exact aJ _)|exact aN hN rfl rfl|(refine bh hN rfl ?_;first|exact aC _|exact aD _)|exact aK rfl rfl rfl|(simp only [ba,List.map_nil])|(with_reducible refine bu ?_)|(with_reducible refine And.intro ?_ ?_)|(refine ah ?_;omega)|(exact aX hN (by decide))))
   (refine dY hN [] (by decide) (.inr rfl) (by first|exact bZ rfl rfl|exact bU hN rfl rfl rfl rfl|exact bQ hN rfl rfl rfl rfl rfl|(simp (disch:=first|decide|omega|(simp only [List.length_cons,List.length_nil];omega)) only [bG,bK,bN,bO,go_sem,beq_self_eq_true,↓ao,↓aj hN,ak hN,reduceIte,reduceCtorEq,Nat.reduceAdd,Nat.reduceLT,Nat.reduceLeDiff,Nat.reduceEqDiff,Nat.reduceSub];rfl)|rfl) ?_ fun νs hνs=>?_;(repeat' (first|exact Gone.nil|(refine Gone.cons rfl rfl ?_ ?_)|(with_reducible refine di ?_)|(with_reducible refine dh ?_)|(with_reducible refine SVs.cons ?_ ?_)|(with_reducible exact SVs.nil)|(simp only [List.drop,List.take])|(simp (disch:=first|decide|omega) only [↓ao,reduceIte,reduceCtorEq,Nat.reduceEqDiff])|(with_reducible exact ge _)|(with_reducible exact df _)|(exact dg rfl rfl rfl)|(exact dI 0 (by simp) rfl rfl)|(refine dW hN rfl (dj hN (by decide)) ?_)|(with_reducible refine dV ?_)|(with_reducible rfl)|(with_reducible refine gj ?_)|(with_reducible refine gl ?_)|(with_reducible refine gm ?_)|(with_reducible refine fV ?_)|(with_reducible refine fK ?_)|(refine ah ?_;omega))))
   all_goals rfl
set_option maxRecDepth 100000 in
theorem oA (x u : Value) (g : Pa) (xs : List Int) (who mine yours : Int) (D : Nat) (h : gR g xs who D mine yours) (w : World) (hP : IsP w x g) (hI : IsI w u xs) :
  Calls Try.prog 12 #[x,u,.int .i64 who,.int .i64 D,.int .i64 mine,.int .i64 yours] w (eg w (lst (qA (pgA g) g.prio.length (D + 1) who (fun v=>(v : Int) ∈ xs) mine yours) g.prio.length)):=by
 obtain ⟨hs,hQ⟩:=id h
 have hw:=hQ.2.1
 have hD:=hQ.2.2.2.1
 have hm : 0 ≤ mine ∧ mine < 16:=by have:=hQ.2.2.2.2.2.2;omega
 have hy : 0 ≤ yours ∧ yours < 16:=by have:=hQ.2.2.2.2.2.2;omega
 have hf:=sK h
 have HR:=(jC g hs D (by omega)).2.2
 have hP0:=hP
 obtain ⟨_,_,_,rfl,⟨s1,n1,c1,rfl,h1⟩,⟨s2,n2,c2,rfl,h2⟩,⟨s3,n3,c3,rfl,h3⟩⟩:=hP
 obtain ⟨s4,n4,c4,rfl,h4⟩:=id hI
 have k1:=Lib.hid (bc hs)
 have k2:=Lib.hid (bc hQ)
 have HS:=Lib.hid hs
 have HW:=Lib.hid hw
 have HM:=Lib.hid hm
 have HY:=Lib.hid hy
 clear hs hQ hw hD hm hy h
 go_enter Try.func12,Try.ntmps12
 go_wp2_with fail
 have hB : Blk (w.alloc (.cells #[.slice s1 n1 c1,.slice s2 n2 c2,.slice s3 n3 c3] 32)) w.heap.size [.slice s1 n1 c1,.slice s2 n2 c2,.slice s3 n3 c3] 32:=dR _ _ _
 have hbw : Below w.heap.size w (w.alloc (.cells #[.slice s1 n1 c1,.slice s2 n2 c2,.slice s3 n3 c3] 32)):=bg _ _
 generalize w.alloc (.cells #[.slice s1 n1 c1,.slice s2 n2 c2,.slice s3 n3 c3] 32) = w1 at *
 have b0:=hB.cell 0 rfl
 have b1:=hB.cell 1 rfl
 have b2:=hB.cell 2 rfl
 go_wp2_with (first
  | (go_at_call 50; refine (kd _ _ _ (hP0.below hbw)).mono ?_; rw [k1.out]; rintro e w2 ⟨rfl, hbw2⟩; replace b0 := bC b0 hbw2; replace b1 := bC b1 hbw2; replace b2 := bC b2 hbw2; replace hbw : Below w.heap.size w w2 := hbw.trans (hbw2.mono hbw.size))
  | (go_at_call 51; refine (ke _ _ _ HS.out.1 _ _ _ _ _ _ (hP0.below hbw) (hI.below hbw)).mono ?_; rw [k2.out]; rintro e w3 ⟨rfl, hbw3⟩; replace b0 := bC b0 hbw3; replace b1 := bC b1 hbw3; replace b2 := bC b2 hbw3; replace hbw : Below w.heap.size w w3 := hbw.trans (hbw3.mono hbw.size); have hz2 := hbw2.size; have hz3 := hbw3.size; have hzz := hbw.size; have hlt3 : w.heap.size < w3.heap.size := (by have := hB.lt; omega))
  | (go_at_call 52; refine (g7 _ _ _ ((hP0.below hbw).below (bg _ _))).mono ?_; rintro e w4 ⟨bs, bm, rfl, hK, hbm, hb4⟩; have hB4 : Below w3.heap.size w3 w4 := (bg _ _).trans (hb4.mono (by simp))))
 refine (HR bs bm _ who (fun v=>(v : Int) ∈ xs) D mine yours _ rfl HW.out HM.out HY.out hf.inn hK (hf.lis ▸ (hI.below hbw).below hB4)).mono ?_
 rintro e w5 ⟨s5,n5,c5,rfl,hI5,hK5,hM5⟩
 have hx5:=bp.out (bp.below (hH w3.heap.size w3 0 (Nat.le_refl _)) hb4) hM5.out (.inl hbm)
 have hz5:=hM5.out.size
 have hz4:=hb4.size
 simp only [World.size_alloc] at hz4 hbm
 replace hI5:=hI5.1
 have hl5:=(IsI.ints hI5).1
 go_wp2_with (refine sL (by rfl) _ _ (by rfl) _ (by rfl) (hx5.mono (Nat.le_refl _) (by simp;omega)) (by omega) (by rfl) (IsI.ints hI5) (by have:=eR (qA (pgA g) g.prio.length (D + 1) who (fun v=>(v : Int) ∈ xs) mine yours) g.prio.length;have:=HS.out.2;omega) ?_;intro s6 c6 w6 ho6 hb6)
 go_ret
 exact ⟨s6,n5,c6,rfl,bp.mono ho6 (by omega) (Nat.le_refl _),hbw.trans ((hB4.mono (by omega)).trans ((hM5.below (by omega) (by omega)).trans (hb6.mono (by omega))))⟩
theorem oB (x u : Value) (g : Pa) (xs : List Int) (who d mine yours : Int) (w : World) (hP : IsP w x g) (hI : IsI w u xs) :
  Calls Try.prog 12 #[x,u,.int .i64 who,.int .i64 d,.int .i64 mine,.int .i64 yours] w (eg w (qM g xs who d mine yours)):=by
 by_cases h : gR g xs who d mine yours
 · obtain ⟨D,rfl⟩ : ∃ D : Nat,d = D:=⟨d.toNat,by have:=h.2.2.2.1;omega⟩
   rw [qM,if_pos h,Int.toNat_natCast]
   exact oA x u g xs who mine yours D h w hP hI
 · rw [qM,if_neg h]
   exact j9 (vs:=[x,u,.int .i64 who,.int .i64 d,.int .i64 mine,.int .i64 yours]) (nb g xs who d mine yours h) (.cons (qm hP) (.cons (jW hI) (.cons (iP _ _) (.cons (iP _ _) (.cons (iP _ _) (.cons (iP _ _) .nil))))))
end Go.Proofs.Ythjamlponejffaa
