/-
  The games, the plans that the dice draw.
-/
import Derived.Test.YthjamlponejffaaZhFc
import Derived.Test.YthjamlponejffaaZhG3
import Derived.Test.YthjamlponejffaaZhKf
namespace Go.Proofs.Ythjamlponejffaa
set_option linter.unusedVariables false
set_option linter.unusedSimpArgs false
open Go.RowKit
attribute [local irreducible] ap b7 Aw Le
structure Dc where
 bs : List Int
 i : Int
 h : Int
 len : bs.length ≤ 4096
 byt : ∀ j,j < bs.length → 0 ≤ gi bs j ∧ gi bs j ≤ 255
 ok : 0 ≤ i ∧ i ≤ bs.length
def dH (h : Int) : Int:=IntKind.u64.wrap (IntKind.u64.wrap (h * 6364136223846793005) + 1442695040888963407)
def dX (h : Int) : Int:=IntKind.i64.wrap (pR .u64 (pS .u64 (dH h) 33) 16777215)
def Dc.nxt (d : Dc) : Dc:=⟨d.bs,if d.i < d.bs.length then d.i + 1 else d.i,dH d.h,d.len,d.byt,by have:=d.ok;split <;> omega⟩
def Dc.val (d : Dc) (n : Int) : Int:=(if d.i < d.bs.length then IntKind.i64.wrap (dX d.h + IntKind.i64.wrap (gi d.bs d.i.toNat)) else dX d.h).tmod n
abbrev diE (d : Dc) : Ent:=.box [.c (.Y d.bs),.c (.int .i64 d.i),.c (.int .u64 d.h)]
theorem wt (h : Int) : 0 ≤ dX h ∧ dX h ≤ 16777215:=by
 have h1 : ∀ a : Int,0 ≤ pR .u64 a 16777215 ∧ pR .u64 a 16777215 ≤ 16777215:=fun a=>by
  unfold pR
  have h2 : (BitVec.ofInt IntKind.u64.bits a &&& BitVec.ofInt IntKind.u64.bits 16777215).toNat ≤ 16777215:=by
   rw [BitVec.toNat_and]
   exact Nat.le_trans Nat.and_le_right (by decide)
  generalize (BitVec.ofInt IntKind.u64.bits a &&& BitVec.ofInt IntKind.u64.bits 16777215).toNat = m at *
  rw [show IntKind.u64.wrap (m : Int) = m by simp [IntKind.wrap,IntKind.bits,IntKind.signed];omega]
  omega
 obtain ⟨h2,h3⟩:=h1 (pS .u64 (dH h) 33)
 unfold dX
 rw [ql (by omega)]
 exact ⟨h2,h3⟩
theorem Dc.bnd (d : Dc) {n : Int} (hn : 1 ≤ n) : 0 ≤ d.val n ∧ d.val n < n:=by
 have hx:=wt d.h
 have hv : 0 ≤ (if d.i < d.bs.length then IntKind.i64.wrap (dX d.h + IntKind.i64.wrap (gi d.bs d.i.toNat)) else dX d.h):=by
  split
  · rename_i h
    have hb:=d.byt d.i.toNat (by have:=d.ok;omega)
    rw [ql (n:=gi d.bs d.i.toNat) (by omega),ql (by omega)]
    omega
  · exact hx.1
 unfold Dc.val
 rw [Int.tmod_eq_emod_of_nonneg hv]
 exact ⟨Int.emod_nonneg _ (by omega),Int.emod_lt_of_pos _ (by omega)⟩
theorem fa (d : Dc) (n : Int) (hn : 1 ≤ n ∧ n ≤ 1125899906842624) : dJ Try.prog 27 (fun ν=>[.ad (ν 0) 0,.c (.int .i64 n)]) [diE d] [diE d.nxt] [] (fun _=>.c (.int .i64 (d.val n))):=by
 obtain ⟨bs,i,h0,hl,hb,hi⟩:=d
 (refine fJ aI Try.func27 rfl rfl (fun _=>by kernel_rfl) rfl rfl rfl rfl (by first|exact jy _|exact ip (j:=0) (by simp) (by simp [Ent.kind])|exact iq (j:=0) (by simp) (by simp [Ent.kind])|exact fI rfl|exact gL|exact jz _) fun hp0 ν hX hN=>?_;simp only [bW,Nat.reduceAdd])
 (repeat' (first|(with_reducible first|(apply hK;clear hK K)|refine stZ ?_|refine aT rfl ?_|((first|apply ae|apply af);clear ae X af Y))|(with_reducible refine aW ?_;first|refine aU rfl ?_|refine aV rfl ?_)|(with_reducible refine b8 ?_;refine cc hN ?_)|((with_reducible first|((first|refine aZ ?_|refine ce ?_|refine a8 ?_|refine cf ?_);intro K hK)|(refine aE ?_;intro X Y ae af)|refine aF ?_);simp (disch:=first|decide|omega|(simp only [List.length_cons,List.length_nil];omega)) only [go_sem,↓aj hN,ak hN,reduceIte,reduceCtorEq,Nat.reduceAdd,Nat.reduceLT,Nat.reduceLeDiff,Nat.reduceEqDiff,Nat.reduceSub])|(with_reducible refine And.intro (fun h=>?_) (fun h=>?_) <;> try (exfalso;omega))|(with_reducible refine aY aI hN ?_)|(with_reducible refine bF aI hN ?_)|(with_reducible refine And.intro ?_ ?_)|(refine ah ?_;omega)|(exact aX hN (by decide))))
 · (refine ⟨.inr rfl,_,(by first|exact bZ rfl rfl|exact bU hN rfl rfl rfl rfl|exact bQ hN rfl rfl rfl rfl rfl|(simp (disch:=first|decide|omega|(simp only [List.length_cons,List.length_nil];omega)) only [bG,bK,bN,bO,go_sem,beq_self_eq_true,↓ao,↓aj hN,ak hN,reduceIte,reduceCtorEq,Nat.reduceAdd,Nat.reduceLT,Nat.reduceLeDiff,Nat.reduceEqDiff,Nat.reduceSub];rfl)|rfl),[],_,rfl,?_,rfl,?_⟩;(all_goals try simp only [List.drop,List.take,List.cons_append,List.nil_append,nmL,List.length_cons,List.length_nil,Nat.reduceAdd,List.getD_cons_zero]);(repeat' (first|(with_reducible first|exact clZ|refine bw ?_ ?_|refine bz ?_ ?_|rfl|refine suZ ?_)|refine bA rfl ?_ ?_|exact aP hN _ rfl rfl rfl|exact aQ hN _ rfl rfl rfl|exact ax hN _ rfl rfl rfl (Or.inr rfl)|(refine aR hN _ rfl rfl (by first|exact Or.inr rfl|exact Or.inl rfl) ?_;first|exact aC _|exact aD _)|refine ay hN rfl ?_|refine az hN rfl rfl ?_|exact au hN _ rfl rfl|exact aA hN rfl rfl rfl rfl|(with_reducible first|refine stZ ?_|refine aO ?_))))
   all_goals simp [Dc.nxt,Dc.val,dX,dH, *]
 · (refine ⟨.inr rfl,_,(by first|exact bZ rfl rfl|exact bU hN rfl rfl rfl rfl|exact bQ hN rfl rfl rfl rfl rfl|(simp (disch:=first|decide|omega|(simp only [List.length_cons,List.length_nil];omega)) only [bG,bK,bN,bO,go_sem,beq_self_eq_true,↓ao,↓aj hN,ak hN,reduceIte,reduceCtorEq,Nat.reduceAdd,Nat.reduceLT,Nat.reduceLeDiff,Nat.reduceEqDiff,Nat.reduceSub];rfl)|rfl),[],_,rfl,?_,rfl,?_⟩;(all_goals try simp only [List.drop,List.take,List.cons_append,List.nil_append,nmL,List.length_cons,List.length_nil,Nat.reduceAdd,List.getD_cons_zero]);(repeat' (first|(with_reducible first|exact clZ|refine bw ?_ ?_|refine bz ?_ ?_|rfl|refine suZ ?_)|refine bA rfl ?_ ?_|exact aP hN _ rfl rfl rfl|exact aQ hN _ rfl rfl rfl|exact ax hN _ rfl rfl rfl (Or.inr rfl)|(refine aR hN _ rfl rfl (by first|exact Or.inr rfl|exact Or.inl rfl) ?_;first|exact aC _|exact aD _)|refine ay hN rfl ?_|refine az hN rfl rfl ?_|exact au hN _ rfl rfl|exact aA hN rfl rfl rfl rfl|(with_reducible first|refine stZ ?_|refine aO ?_))))
   all_goals simp [Dc.nxt,Dc.val,dX,dH, *]
end Go.Proofs.Ythjamlponejffaa
namespace Go.Proofs.Ythjamlponejffaa
set_option linter.unusedVariables false
set_option linter.unusedSimpArgs false
open Go.RowKit
attribute [local irreducible] ap b7 Aw Le
def eM : List Int → Int → List Int
 | [], x => [x]
 | y :: ys, x => if y < x then y :: eM ys x else if y = x then y :: ys else x :: y :: ys
theorem ni {x z : Int} : ∀ {xs : List Int},z ∈ eM xs x ↔ z = x ∨ z ∈ xs:=by
 intro xs
 induction xs with
 | nil => simp [eM]
 | cons y ys ih =>
   unfold eM
   split
   · rw [List.mem_cons,ih,List.mem_cons]
     exact ⟨fun h=>h.elim (fun h=>.inr (.inl h)) fun h=>h.elim .inl fun h=>.inr (.inr h),fun h=>h.elim (fun h=>.inr (.inl h)) fun h=>h.elim .inl fun h=>.inr (.inr h)⟩
   · split
     · rename_i _ h;subst h
       exact ⟨fun h=>.inr h,fun h=>h.elim (fun h=>by rw [h];exact List.mem_cons_self) id⟩
     · rw [List.mem_cons]
theorem sT (x : Int) : ∀ xs : List Int,(eM xs x).length ≤ xs.length + 1:=by
 intro xs
 induction xs with
 | nil => simp [eM]
 | cons y ys ih =>
   unfold eM
   split
   · simp;omega
   · split
     · simp
     · simp
theorem lZ {x : Int} : ∀ {xs : List Int} {k : Nat},k ≤ xs.length → (∀ j,j < k → gi xs j < x) → (k < xs.length → ¬ gi xs k < x) → eM xs x = if k < xs.length ∧ gi xs k = x then xs else xs.take k ++ x :: xs.drop k:=by
 intro xs
 induction xs with
 | nil =>
   intro k hk _ _
   have : k = 0:=by simpa using hk
   subst this;rfl
 | cons y ys ih =>
   intro k hk h1 h2
   cases k with
   | zero =>
     have h3 : ¬ y < x:=h2 (by simp)
     unfold eM
     rw [if_neg h3]
     by_cases h4 : y = x
     · rw [if_pos h4,if_pos ⟨by simp,h4⟩]
     · rw [if_neg h4,if_neg fun h=>h4 h.2];rfl
   | succ k =>
     have h3 : y < x:=h1 0 (by omega)
     unfold eM
     rw [if_pos h3,ih (k:=k) (by simpa using hk) (fun j hj=>h1 (j + 1) (by omega)) (fun h=>h2 (by simpa using h))]
     by_cases h5 : k < ys.length ∧ gi ys k = x
     · rw [if_pos h5,if_pos ⟨by simpa using h5.1,h5.2⟩]
     · rw [if_neg h5,if_neg fun h=>h5 ⟨by simpa using h.1,h.2⟩];rfl
theorem dQ {y m : Int} {ys : List Int} : bD (y :: ys) m ↔ (0 ≤ y ∧ y < m) ∧ bD ys m ∧ ∀ z,z ∈ ys → y < z:=by
 constructor
 · intro h
   have h0:=h 0 (by simp)
   refine ⟨⟨h0.1,h0.2.1⟩,fun k hk=>?_,fun z hz=>?_⟩
   · have:=h (k + 1) (by simpa using hk)
     refine ⟨this.1,this.2.1,fun hk0=>?_⟩
     have h2:=this.2.2 (by omega)
     obtain ⟨j,rfl⟩ : ∃ j,k = j + 1:=⟨k - 1,by omega⟩
     exact h2
   · obtain ⟨j,hj,e⟩:=ck hz
     have key : ∀ j,j < ys.length → y < gi ys j:=by
      intro j
      induction j with
      | zero => intro hj; exact (h 1 (by simp; omega)).2.2 (by omega)
      | succ j ih =>
        intro hj
        have:=ih (by omega)
        have h2:=(h (j + 2) (by simp;omega)).2.2 (by omega)
        have h3 : gi ys j < gi ys (j + 1):=h2
        omega
     rw [← e];exact key j hj
 · rintro ⟨⟨h1,h2⟩,h3,h4⟩ k hk
   cases k with
   | zero => exact ⟨h1, h2, fun h => by omega⟩
   | succ k =>
     have hk' : k < ys.length:=by simpa using hk
     obtain ⟨a,b,c⟩:=h3 k hk'
     refine ⟨a,b,fun _=>?_⟩
     cases k with
     | zero => exact h4 _ (cy hk')
     | succ k => exact c (by omega)
theorem oF {x m : Int} (h0 : 0 ≤ x) (h1 : x < m) : ∀ {xs : List Int},bD xs m → bD (eM xs x) m:=by
 intro xs
 induction xs with
 | nil => intro _; exact dQ.2 ⟨⟨h0, h1⟩, fun k hk => absurd hk (Nat.not_lt_zero _), fun z hz => by simp at hz⟩
 | cons y ys ih =>
   intro h
   obtain ⟨a,b,c⟩:=dQ.1 h
   unfold eM
   split
   · refine dQ.2 ⟨a,ih b,fun z hz=>?_⟩
     rcases ni.1 hz with rfl|hz
     · assumption
     · exact c z hz
   · split
     · exact h
     · refine dQ.2 ⟨⟨h0,h1⟩,h,fun z hz=>?_⟩
       rcases List.mem_cons.1 hz with rfl|hz
       · omega
       · have:=c z hz;omega
theorem sU (xs : List Int) (x : Int) (hl : xs.length ≤ 65536) : ap Try.prog 103 [.c (.I xs),.c (.int .i64 x)] [] (fun _=>.c (.I (eM xs x))):=by
 (refine bf aI Try.func103 rfl rfl (by kernel_rfl) fun hp0 ν hX hN=>?_;simp only [bW,Nat.reduceAdd])
 (repeat' (first|(with_reducible first|(apply hK;clear hK K)|refine stZ ?_|refine aT rfl ?_|((first|apply ae|apply af);clear ae X af Y))|(with_reducible refine aW ?_;first|refine aU rfl ?_|refine aV rfl ?_)|(with_reducible refine bv ?_;first|refine bd rfl rfl rfl rfl ?_|refine bt rfl rfl rfl ?_|refine bI rfl rfl rfl rfl ?_)|((first|(with_reducible first|((first|refine aZ ?_|refine a8 ?_);intro K hK)|(refine aE ?_;intro X Y ae af)|refine aF ?_)|(with_reducible refine bv ?_;refine be rfl rfl fun X Y ae af=>?_));simp (disch:=first|decide|omega|(simp only [List.length_cons,List.length_nil];omega)) only [go_sem,↓aj hN,ak hN,reduceIte,reduceCtorEq,Nat.reduceAdd,Nat.reduceLT,Nat.reduceLeDiff,Nat.reduceEqDiff,Nat.reduceSub])|(with_reducible refine And.intro (fun h=>?_) (fun h=>?_) <;> try (exfalso;omega))|(with_reducible refine aY aI hN ?_)|(with_reducible refine And.intro ?_ ?_)|(refine ah ?_;omega)|(exact aX hN (by decide))))
 (refine bT (fun (k : Nat)=>(tmL [(5,.c (.int .i64 k)),(0,.c (.I xs)),(1,.c (.int .i64 x))],hpL hp0 ν [])) (fun (k : Nat)=>k ≤ xs.length ∧ ∀ j,j < k → gi xs j < x) (fun (k : Nat)=>xs.length - k) ⟨0,?_,bB hX hN [] ?_ ?_⟩ ?_;(repeat' (first|(with_reducible first|exact clZ|refine bw ?_ ?_|refine bz ?_ ?_|rfl|refine suZ ?_)|refine bA rfl ?_ ?_|exact aP hN _ rfl rfl rfl|exact aQ hN _ rfl rfl rfl|exact ax hN _ rfl rfl rfl (Or.inr rfl)|(refine aR hN _ rfl rfl (by first|exact Or.inr rfl|exact Or.inl rfl) ?_;first|exact aC _|exact aD _)|refine ay hN rfl ?_|refine az hN rfl rfl ?_|exact au hN _ rfl rfl|exact aA hN rfl rfl rfl rfl|(with_reducible first|refine stZ ?_|refine aO ?_)));(try (any_goals (first|(with_reducible rfl)|(refine ah ?_;omega)))))
 · exact ⟨Nat.zero_le _,fun j hj=>absurd hj (Nat.not_lt_zero _)⟩
 rintro k ⟨hk,ho⟩
 have hdr : List.drop (Int.toNat 0) (List.take k xs) = xs.take k:=rfl
 have hdl : List.drop k (List.take xs.length xs) = xs.drop k:=by rw [List.take_length]
 have hl1 : (xs.take k).length = k:=by simp;omega
 have hl2 : (xs.drop k).length = xs.length - k:=by simp
 (repeat' (first|(with_reducible first|(apply hK;clear hK K)|refine stZ ?_|refine aT rfl ?_|((first|apply ae|apply af);clear ae X af Y))|(with_reducible refine aW ?_;first|refine aU rfl ?_|refine aV rfl ?_)|(with_reducible refine bv ?_;first|refine bd rfl rfl rfl rfl ?_|refine bt rfl rfl rfl ?_|refine bI rfl rfl rfl rfl ?_)|((first|(with_reducible first|((first|refine aZ ?_|refine a8 ?_);intro K hK)|(refine aE ?_;intro X Y ae af)|refine aF ?_)|(with_reducible refine bv ?_;refine be rfl rfl fun X Y ae af=>?_));simp (disch:=first|decide|omega|(simp only [List.length_cons,List.length_nil];omega)) only [go_sem,↓aj hN,ak hN,reduceIte,reduceCtorEq,Nat.reduceAdd,Nat.reduceLT,Nat.reduceLeDiff,Nat.reduceEqDiff,Nat.reduceSub])|(with_reducible refine And.intro (fun h=>?_) (fun h=>?_) <;> try (exfalso;omega))|(with_reducible refine aY aI hN ?_)|(refine aB (iB ?_ ?_) ?_ rfl (fun _=>rfl) ?_)|(with_reducible first|exact aq|refine am ?_ ?_|exact bH _|refine aM ?_|exact aL _|exact bj _ _|refine bi ?_|exact aJ _)|exact aN hN rfl rfl|(refine bh hN rfl ?_;first|exact aC _|exact aD _)|exact aK rfl rfl rfl|(simp only [ba,List.map_nil])|(with_reducible refine bu ?_)|(with_reducible refine And.intro ?_ ?_)|(refine ah ?_;omega)|(exact aX hN (by decide))))
 all_goals try simp only [hdr,hdl]
 all_goals try (refine ah ?_;omega)
 · (refine ⟨k + 1,⟨?_,?_⟩,bB hX hN [] ?_ ?_⟩;(try any_goals dsimp only);(repeat' (first|(with_reducible first|exact clZ|refine bw ?_ ?_|refine bz ?_ ?_|rfl|refine suZ ?_)|refine bA rfl ?_ ?_|exact aP hN _ rfl rfl rfl|exact aQ hN _ rfl rfl rfl|exact ax hN _ rfl rfl rfl (Or.inr rfl)|(refine aR hN _ rfl rfl (by first|exact Or.inr rfl|exact Or.inl rfl) ?_;first|exact aC _|exact aD _)|refine ay hN rfl ?_|refine az hN rfl rfl ?_|exact au hN _ rfl rfl|exact aA hN rfl rfl rfl rfl|(with_reducible first|refine stZ ?_|refine aO ?_)));(try (any_goals (first|(with_reducible rfl)|(refine ah ?_;omega)))))
   exact ⟨by omega,d5 ho (by assumption)⟩
 · (refine dY hN [] (by decide) (.inr rfl) (by first|exact bZ rfl rfl|exact bU hN rfl rfl rfl rfl|exact bQ hN rfl rfl rfl rfl rfl|(simp (disch:=first|decide|omega|(simp only [List.length_cons,List.length_nil];omega)) only [bG,bK,bN,bO,go_sem,beq_self_eq_true,↓ao,↓aj hN,ak hN,reduceIte,reduceCtorEq,Nat.reduceAdd,Nat.reduceLT,Nat.reduceLeDiff,Nat.reduceEqDiff,Nat.reduceSub];rfl)|rfl) ?_ fun νs hνs=>?_;(repeat' (first|exact Gone.nil|(refine Gone.cons rfl rfl ?_ ?_)|(with_reducible refine di ?_)|(with_reducible refine dh ?_)|(with_reducible refine SVs.cons ?_ ?_)|(with_reducible exact SVs.nil)|(simp only [List.drop,List.take])|(simp (disch:=first|decide|omega) only [↓ao,reduceIte,reduceCtorEq,Nat.reduceEqDiff])|(with_reducible exact ge _)|(with_reducible exact df _)|(exact dg rfl rfl rfl)|(exact dI 0 (by simp) rfl rfl)|(refine dW hN rfl (dj hN (by decide)) ?_)|(with_reducible refine dV ?_)|(with_reducible rfl)|(with_reducible refine gj ?_)|(with_reducible refine gl ?_)|(with_reducible refine gm ?_)|(with_reducible refine fV ?_)|(with_reducible refine fK ?_)|(refine ah ?_;omega))))
   rw [lZ hk ho (fun _=>by assumption),if_pos ⟨by omega,by assumption⟩]
 · have hne : ¬ gi xs k = x:=beq_eq_false_iff_ne.1 (by assumption)
   (refine dY hN [] (by decide) (.inr rfl) (by first|exact bZ rfl rfl|exact bU hN rfl rfl rfl rfl|exact bQ hN rfl rfl rfl rfl rfl|(simp (disch:=first|decide|omega|(simp only [List.length_cons,List.length_nil];omega)) only [bG,bK,bN,bO,go_sem,beq_self_eq_true,↓ao,↓aj hN,ak hN,reduceIte,reduceCtorEq,Nat.reduceAdd,Nat.reduceLT,Nat.reduceLeDiff,Nat.reduceEqDiff,Nat.reduceSub];rfl)|rfl) ?_ fun νs hνs=>?_;(repeat' (first|exact Gone.nil|(refine Gone.cons rfl rfl ?_ ?_)|(with_reducible refine di ?_)|(with_reducible refine dh ?_)|(with_reducible refine SVs.cons ?_ ?_)|(with_reducible exact SVs.nil)|(simp only [List.drop,List.take])|(simp (disch:=first|decide|omega) only [↓ao,reduceIte,reduceCtorEq,Nat.reduceEqDiff])|(with_reducible exact ge _)|(with_reducible exact df _)|(exact dg rfl rfl rfl)|(exact dI 0 (by simp) rfl rfl)|(refine dW hN rfl (dj hN (by decide)) ?_)|(with_reducible refine dV ?_)|(with_reducible rfl)|(with_reducible refine gj ?_)|(with_reducible refine gl ?_)|(with_reducible refine gm ?_)|(with_reducible refine fV ?_)|(with_reducible refine fK ?_)|(refine ah ?_;omega))))
   rw [lZ hk ho (fun _=>by assumption),if_neg fun h=>hne h.2];simp
 · (refine dY hN [] (by decide) (.inr rfl) (by first|exact bZ rfl rfl|exact bU hN rfl rfl rfl rfl|exact bQ hN rfl rfl rfl rfl rfl|(simp (disch:=first|decide|omega|(simp only [List.length_cons,List.length_nil];omega)) only [bG,bK,bN,bO,go_sem,beq_self_eq_true,↓ao,↓aj hN,ak hN,reduceIte,reduceCtorEq,Nat.reduceAdd,Nat.reduceLT,Nat.reduceLeDiff,Nat.reduceEqDiff,Nat.reduceSub];rfl)|rfl) ?_ fun νs hνs=>?_;(repeat' (first|exact Gone.nil|(refine Gone.cons rfl rfl ?_ ?_)|(with_reducible refine di ?_)|(with_reducible refine dh ?_)|(with_reducible refine SVs.cons ?_ ?_)|(with_reducible exact SVs.nil)|(simp only [List.drop,List.take])|(simp (disch:=first|decide|omega) only [↓ao,reduceIte,reduceCtorEq,Nat.reduceEqDiff])|(with_reducible exact ge _)|(with_reducible exact df _)|(exact dg rfl rfl rfl)|(exact dI 0 (by simp) rfl rfl)|(refine dW hN rfl (dj hN (by decide)) ?_)|(with_reducible refine dV ?_)|(with_reducible rfl)|(with_reducible refine gj ?_)|(with_reducible refine gl ?_)|(with_reducible refine gm ?_)|(with_reducible refine fV ?_)|(with_reducible refine fK ?_)|(refine ah ?_;omega))))
   rw [lZ hk ho (fun h=>absurd h (by omega)),if_neg fun h=>by omega];simp
def fw (a b : List Int) : List Int:=b.foldl eM a
theorem qV {z : Int} : ∀ {b a : List Int},z ∈ fw a b ↔ z ∈ a ∨ z ∈ b:=by
 intro b
 induction b with
 | nil => intro a; simp [fw]
 | cons y ys ih =>
   intro a
   show z ∈ fw (eM a y) ys ↔ _
   rw [ih,ni,List.mem_cons]
   exact ⟨fun h=>h.elim (fun h=>h.elim (fun h=>.inr (.inl h)) .inl) fun h=>.inr (.inr h),fun h=>h.elim (fun h=>.inl (.inr h)) fun h=>h.elim (fun h=>.inl (.inl h)) .inr⟩
theorem jg {m : Int} : ∀ {b a : List Int},bD a m → bD b m → bD (fw a b) m:=by
 intro b
 induction b with
 | nil => intro a h _; exact h
 | cons y ys ih =>
   intro a h k
   obtain ⟨h1,h2,_⟩:=dQ.1 k
   exact ih (oF h1.1 h1.2 h) h2
theorem iX : ∀ (b a : List Int),(fw a b).length ≤ a.length + b.length:=by
 intro b
 induction b with
 | nil => intro a; exact Nat.le_refl _
 | cons y ys ih =>
   intro a
   have h1:=ih (eM a y)
   have h2:=sT y a
   show (fw (eM a y) ys).length ≤ _
   simp;omega
theorem oG {a b : List Int} {k : Nat} (h : k < b.length) : (b.take (k + 1)).foldl eM a = eM ((b.take k).foldl eM a) (gi b k):=by
 rw [List.take_succ_eq_append_getElem h,List.foldl_append,dC h];rfl
theorem iC (a b : List Int) : ap Try.prog 69 [.c (.I a),.c (.I b)] [] (fun _=>.c (.bool (tf (bD a 256 ∧ bD b 256)))):=by
 (refine bf aI Try.func69 rfl rfl (by kernel_rfl) fun hp0 ν hX hN=>?_;simp only [bW,Nat.reduceAdd])
 (repeat' (first|(with_reducible first|(apply hK;clear hK K)|refine stZ ?_|refine aT rfl ?_|((first|apply ae|apply af);clear ae X af Y))|(with_reducible refine aW ?_;first|refine aU rfl ?_|refine aV rfl ?_)|(with_reducible refine bv ?_;first|refine bd rfl rfl rfl rfl ?_|refine bt rfl rfl rfl ?_|refine bI rfl rfl rfl rfl ?_)|((first|(with_reducible first|((first|refine aZ ?_|refine a8 ?_);intro K hK)|(refine aE ?_;intro X Y ae af)|refine aF ?_)|(with_reducible refine bv ?_;refine be rfl rfl fun X Y ae af=>?_));simp (disch:=first|decide|omega|(simp only [List.length_cons,List.length_nil];omega)) only [go_sem,beq_self_eq_true,↓ao,↓aj hN,ak hN,reduceIte,reduceCtorEq,Nat.reduceAdd,Nat.reduceLT,Nat.reduceLeDiff,Nat.reduceEqDiff,Nat.reduceSub])|(with_reducible refine And.intro (fun h=>?_) (fun h=>?_) <;> try (exfalso;omega))|(with_reducible refine aY aI hN ?_)|(refine aB (ph ?_ ?_) ?_ rfl (fun _=>rfl) ?_)|(with_reducible first|exact aq|refine am ?_ ?_|exact bH _|refine aM ?_|exact aL _|exact bj _ _|refine bi ?_|exact aJ _)|exact aN hN rfl rfl|(refine bh hN rfl ?_;first|exact aC _|exact aD _)|exact aK rfl rfl rfl|(simp only [ba,List.map_nil])|(with_reducible refine bu ?_)|(with_reducible refine And.intro ?_ ?_)|(refine ah ?_;omega)|(exact aX hN (by decide))))
 all_goals (refine bX (.inr rfl) (by first|rfl|(simp (disch:=first|decide|omega|(simp only [List.length_cons,List.length_nil];omega)) only [bG,bK,bN,bO,go_sem,beq_self_eq_true,↓ao,↓aj hN,ak hN,reduceIte,reduceCtorEq,Nat.reduceAdd,Nat.reduceLT,Nat.reduceLeDiff,Nat.reduceEqDiff,Nat.reduceSub];rfl)) ?_)
 all_goals refine fK ?_
 · exact cM ⟨fun e=>⟨And.right (by assumption),e.2⟩,fun e=>⟨by omega,e.2⟩⟩
 · exact (aH fun e=>(by assumption : ¬ ((0 ≤ (256 : Int) ∧ (256 : Int) ≤ 256) ∧ bD a 256)) ⟨by omega,e.1⟩).symm
theorem qW (a b : List Int) (ha : bD a 256) (hb : bD b 256) : ap Try.prog 62 [.c (.I a),.c (.I b)] [] (fun _=>.c (.I (fw a b))):=by
 have hla:=cG ha (by omega)
 have hlb:=cG hb (by omega)
 have hok:=iC a b
 rw [bc ⟨ha,hb⟩] at hok
 (refine bf aI Try.func62 rfl rfl (by kernel_rfl) fun hp0 ν hX hN=>?_;simp only [bW,Nat.reduceAdd])
 (repeat' (first|(with_reducible first|(apply hK;clear hK K)|refine stZ ?_|refine aT rfl ?_|((first|apply ae|apply af);clear ae X af Y))|(with_reducible refine aW ?_;first|refine aU rfl ?_|refine aV rfl ?_)|((with_reducible first|((first|refine aZ ?_|refine a8 ?_);intro K hK)|(refine aE ?_;intro X Y ae af)|refine aF ?_);simp (disch:=first|decide|omega|(simp only [List.length_cons,List.length_nil];omega)) only [go_sem,↓aj hN,ak hN,reduceIte,reduceCtorEq,Nat.reduceAdd,Nat.reduceLT,Nat.reduceLeDiff,Nat.reduceEqDiff,Nat.reduceSub])|(with_reducible refine And.intro (fun h=>?_) (fun h=>?_) <;> try (exfalso;omega))|(with_reducible refine aY aI hN ?_)|(refine aB hok ?_ rfl (fun _=>rfl) ?_)|(refine aB (iB a (by omega)) ?_ rfl (fun _=>rfl) ?_;focus ((repeat' (first|(with_reducible first|exact aq|refine am ?_ ?_|exact bH _|refine aM ?_|exact aL _|exact bj _ _|refine bi ?_|exact aJ _)|exact aN hN rfl rfl|(refine bh hN rfl ?_;first|exact aC _|exact aD _)|exact aK rfl rfl rfl));done))|(with_reducible first|exact aq|refine am ?_ ?_|exact bH _|refine aM ?_|exact aL _|exact bj _ _|refine bi ?_|exact aJ _)|exact aN hN rfl rfl|(refine bh hN rfl ?_;first|exact aC _|exact aD _)|exact aK rfl rfl rfl|(simp only [ba,List.map_nil])|(with_reducible refine bu ?_)|(with_reducible refine And.intro ?_ ?_)|(refine ah ?_;omega)|(exact aX hN (by decide))))
 (refine bT (fun (k : Nat)=>(tmL [(6,.c (.int .i64 k)),(5,.c (.I ((b.take k).foldl eM a))),(1,.c (.I b))],hpL hp0 ν [])) (fun (k : Nat)=>k ≤ b.length) (fun (k : Nat)=>b.length - k) ⟨0,?_,bB hX hN [] ?_ ?_⟩ ?_;(repeat' (first|(with_reducible first|exact clZ|refine bw ?_ ?_|refine bz ?_ ?_|rfl|refine suZ ?_)|refine bA rfl ?_ ?_|exact aP hN _ rfl rfl rfl|exact aQ hN _ rfl rfl rfl|exact ax hN _ rfl rfl rfl (Or.inr rfl)|(refine aR hN _ rfl rfl (by first|exact Or.inr rfl|exact Or.inl rfl) ?_;first|exact aC _|exact aD _)|refine ay hN rfl ?_|refine az hN rfl rfl ?_|exact au hN _ rfl rfl|exact aA hN rfl rfl rfl rfl|(with_reducible first|refine stZ ?_|refine aO ?_)));(try (any_goals (first|(with_reducible rfl)|(refine ah ?_;omega)))))
 intro k hk
 have hlf:=iX (b.take k) a
 have hlt : (b.take k).length ≤ k:=by simp;omega
 have e : fw a (b.take k) = (b.take k).foldl eM a:=rfl
 rw [e] at hlf
 (repeat' (first|(with_reducible first|(apply hK;clear hK K)|refine stZ ?_|refine aT rfl ?_|((first|apply ae|apply af);clear ae X af Y))|(with_reducible refine aW ?_;first|refine aU rfl ?_|refine aV rfl ?_)|((with_reducible first|((first|refine aZ ?_|refine a8 ?_);intro K hK)|(refine aE ?_;intro X Y ae af)|refine aF ?_);simp (disch:=first|decide|omega|(simp only [List.length_cons,List.length_nil];omega)) only [go_sem,↓aj hN,ak hN,reduceIte,reduceCtorEq,Nat.reduceAdd,Nat.reduceLT,Nat.reduceLeDiff,Nat.reduceEqDiff,Nat.reduceSub])|(with_reducible refine And.intro (fun h=>?_) (fun h=>?_) <;> try (exfalso;omega))|(with_reducible refine aY aI hN ?_)|(refine io (sU ((b.take k).foldl eM a) (gi b k) (by omega)) ?_ rfl rfl ?_;focus ((repeat' (first|(with_reducible first|exact aq|refine am ?_ ?_|exact bH _|refine aM ?_|exact aL _|exact bj _ _|refine bi ?_|exact aJ _)|exact aN hN rfl rfl|(refine bh hN rfl ?_;first|exact aC _|exact aD _)|exact aK rfl rfl rfl));done))|(with_reducible first|exact aq|refine am ?_ ?_|exact bH _|refine aM ?_|exact aL _|exact bj _ _|refine bi ?_|exact aJ _)|exact aN hN rfl rfl|(refine bh hN rfl ?_;first|exact aC _|exact aD _)|exact aK rfl rfl rfl|(simp only [ba,List.map_nil])|(with_reducible refine bu ?_)|(with_reducible refine And.intro ?_ ?_)|(refine ah ?_;omega)|(exact aX hN (by decide))))
 · (refine ⟨k + 1,⟨?_,?_⟩,bB hX hN [] ?_ ?_⟩;(try any_goals dsimp only);(repeat' (first|(with_reducible first|exact clZ|refine bw ?_ ?_|refine bz ?_ ?_|rfl|refine suZ ?_)|refine bA rfl ?_ ?_|exact aP hN _ rfl rfl rfl|exact aQ hN _ rfl rfl rfl|exact ax hN _ rfl rfl rfl (Or.inr rfl)|(refine aR hN _ rfl rfl (by first|exact Or.inr rfl|exact Or.inl rfl) ?_;first|exact aC _|exact aD _)|refine ay hN rfl ?_|refine az hN rfl rfl ?_|exact au hN _ rfl rfl|exact aA hN rfl rfl rfl rfl|(with_reducible first|refine stZ ?_|refine aO ?_)));(try (any_goals (first|(with_reducible rfl)|(refine ah ?_;omega)))))
   exact (oG (a:=a) (b:=b) (k:=k) (by omega)).symm
 · (refine dY hN [] (by decide) (.inr rfl) (by first|exact bZ rfl rfl|exact bU hN rfl rfl rfl rfl|exact bQ hN rfl rfl rfl rfl rfl|(simp (disch:=first|decide|omega|(simp only [List.length_cons,List.length_nil];omega)) only [bG,bK,bN,bO,go_sem,beq_self_eq_true,↓ao,↓aj hN,ak hN,reduceIte,reduceCtorEq,Nat.reduceAdd,Nat.reduceLT,Nat.reduceLeDiff,Nat.reduceEqDiff,Nat.reduceSub];rfl)|rfl) ?_ fun νs hνs=>?_;(repeat' (first|exact Gone.nil|(refine Gone.cons rfl rfl ?_ ?_)|(with_reducible refine di ?_)|(with_reducible refine dh ?_)|(with_reducible refine SVs.cons ?_ ?_)|(with_reducible exact SVs.nil)|(simp only [List.drop,List.take])|(simp (disch:=first|decide|omega) only [↓ao,reduceIte,reduceCtorEq,Nat.reduceEqDiff])|(with_reducible exact ge _)|(with_reducible exact df _)|(exact dg rfl rfl rfl)|(exact dI 0 (by simp) rfl rfl)|(refine dW hN rfl (dj hN (by decide)) ?_)|(with_reducible refine dV ?_)|(with_reducible rfl)|(with_reducible refine gj ?_)|(with_reducible refine gl ?_)|(with_reducible refine gm ?_)|(with_reducible refine fV ?_)|(with_reducible refine fK ?_)|(refine ah ?_;omega))))
   rw [show k = b.length by omega,List.take_length];rfl
end Go.Proofs.Ythjamlponejffaa
namespace Go.Proofs.Ythjamlponejffaa
set_option linter.unusedVariables false
set_option linter.unusedSimpArgs false
open Go.RowKit
attribute [local irreducible] ap b7 Aw Le
def dL (n : Int) : Nat → Dc → List Int → List Int × Dc
 | 0, d, r => (r, d)
 | k + 1, d, r => dL n k d.nxt (fw r [d.val n])
def eN (n pm : Int) : Nat → Dc → List Int → List (List Int) → List Int → Pa × Dc
 | 0, d, o, x, p => (⟨⟨o, x⟩, p⟩, d)
 | k + 1, d, o, x, p => eN n pm k (dL n (1 + d.val 3).toNat d.nxt []).2.nxt.nxt (o ++ [(dL n (1 + d.val 3).toNat d.nxt []).2.val 2]) (x ++ [(dL n (1 + d.val 3).toNat d.nxt []).1]) (p ++ [(dL n (1 + d.val 3).toNat d.nxt []).2.nxt.val pm])
def gx (d : Dc) (most pm : Int) : Pa × Dc:=eN (1 + d.val most) pm (1 + d.val most).toNat d.nxt [] [] []
theorem iY (n : Int) : bD [] n:=fun k hk=>absurd hk (Nat.not_lt_zero _)
theorem iZ {x n : Int} (h0 : 0 ≤ x) (h1 : x < n) : bD [x] n:=dQ.2 ⟨⟨h0,h1⟩,iY n,fun z hz=>by simp at hz⟩
theorem sV {n : Int} (hn : 1 ≤ n) : ∀ (k : Nat) (d : Dc) (r : List Int),bD r n → bD (dL n k d r).1 n ∧ (dL n k d r).1.length ≤ r.length + k ∧ (0 < k ∨ r ≠ [] → 1 ≤ (dL n k d r).1.length):=by
 intro k
 induction k with
 | zero => intro d r h; exact ⟨h, Nat.le_refl _, fun h => by rcases h with h | h; (· omega); exact List.length_pos_iff.2 h⟩
 | succ k ih =>
   intro d r h
   have hb:=d.bnd hn
   obtain ⟨h1,h2,h3⟩:=ih d.nxt (fw r [d.val n]) (jg h (iZ hb.1 hb.2))
   have h4:=iX [d.val n] r
   refine ⟨h1,by show (dL n k d.nxt (fw r [d.val n])).1.length ≤ _;simp at h4;omega,fun _=>h3 (.inr fun e=>?_)⟩
   have : d.val n ∈ fw r [d.val n]:=qV.2 (.inr (by simp))
   rw [e] at this;cases this
structure GPart (n pm : Int) (o : List Int) (x : List (List Int)) (p : List Int) : Prop where
 l1 : x.length = o.length
 l2 : p.length = o.length
 at' : ∀ v,v < o.length → (0 ≤ gi o v ∧ gi o v ≤ 1) ∧ (1 ≤ (gr x v).length ∧ (gr x v).length ≤ 3 ∧ bD (gr x v) n) ∧ 0 ≤ gi p v ∧ gi p v < pm
theorem uJ {xs : List (List Int)} {y : List Int} {v : Nat} (h : v ≤ xs.length) : gr (xs ++ [y]) v = if v < xs.length then gr xs v else y:=by
 unfold gr
 rw [cD]
 split
 · rfl
 · have : v - xs.length = 0:=by omega
   rw [this];rfl
theorem GPart.snoc {n pm : Int} {o : List Int} {x : List (List Int)} {p : List Int} (h : GPart n pm o x p) {a b : Int} {r : List Int} (ha : 0 ≤ a ∧ a ≤ 1) (hr : 1 ≤ r.length ∧ r.length ≤ 3 ∧ bD r n) (hb : 0 ≤ b ∧ b < pm) : GPart n pm (o ++ [a]) (x ++ [r]) (p ++ [b]):=by
 have h1:=h.l1
 have h2:=h.l2
 refine ⟨by simp [h1],by simp [h2],fun v hv=>?_⟩
 have hv' : v < o.length + 1:=by simpa using hv
 rw [eq,eq,uJ (by omega),h1,h2]
 by_cases e : v < o.length
 · rw [if_pos e,if_pos e,if_pos e];exact h.at' v e
 · have : v = o.length:=by omega
   rw [if_neg e,if_neg e,if_neg e,if_pos this,if_pos this]
   exact ⟨ha,hr,hb⟩
theorem qY {n pm : Int} (hn : 1 ≤ n) (hp : 1 ≤ pm) : ∀ (k : Nat) (d : Dc) (o : List Int) (x : List (List Int)) (p : List Int),GPart n pm o x p →
  GPart n pm (eN n pm k d o x p).1.ar.own (eN n pm k d o x p).1.ar.nxt (eN n pm k d o x p).1.prio ∧ (eN n pm k d o x p).1.ar.own.length = o.length + k:=by
 intro k
 induction k with
 | zero => intro d o x p h; exact ⟨h, rfl⟩
 | succ k ih =>
   intro d o x p h
   have hb:=d.bnd (n:=3) (by omega)
   obtain ⟨h1,h2,h3⟩:=sV hn (1 + d.val 3).toNat d.nxt [] (iY n)
   have h4:=(dL n (1 + d.val 3).toNat d.nxt []).2.bnd (n:=2) (by omega)
   have h5:=(dL n (1 + d.val 3).toNat d.nxt []).2.nxt.bnd (n:=pm) hp
   have hl : ([] : List Int).length = 0:=rfl
   have:=ih (dL n (1 + d.val 3).toNat d.nxt []).2.nxt.nxt _ _ _ (h.snoc (a:=(dL n (1 + d.val 3).toNat d.nxt []).2.val 2) (b:=(dL n (1 + d.val 3).toNat d.nxt []).2.nxt.val pm) (r:=(dL n (1 + d.val 3).toNat d.nxt []).1) ⟨h4.1,by omega⟩ ⟨h3 (.inl (by omega)),by omega,h1⟩ h5)
   refine ⟨this.1,this.2.trans ?_⟩
   simp;omega
theorem sW {d : Dc} {most pm : Int} (hm : 1 ≤ most ∧ most ≤ 16) (hp : 1 ≤ pm ∧ pm ≤ 41) : PaOk (gx d most pm).1 ∧ ((gx d most pm).1.prio.length : Int) ≤ most ∧ ∀ v,v < (gx d most pm).1.prio.length → gi (gx d most pm).1.prio v < pm:=by
 have hb:=d.bnd hm.1
 obtain ⟨h1,h2⟩:=qY (n:=1 + d.val most) (pm:=pm) (by omega) (by omega) (1 + d.val most).toNat d.nxt [] [] [] ⟨rfl,rfl,fun v hv=>absurd hv (Nat.not_lt_zero _)⟩
 have hl : ([] : List Int).length = 0:=rfl
 have e : gx d most pm = eN (1 + d.val most) pm (1 + d.val most).toNat d.nxt [] [] []:=rfl
 rw [← e] at h1 h2
 have h3:=h1.l1
 have h4:=h1.l2
 refine ⟨⟨⟨by omega,by omega,h3,fun v hv=>?_⟩,h4,fun v hv=>?_⟩,by omega,fun v hv=>?_⟩
 · obtain ⟨a,⟨b1,b2,b3⟩,_⟩:=h1.at' v hv
   refine ⟨a.1,a.2,b1,by omega,fun j hj=>?_⟩
   have:=b3 j hj
   exact ⟨this.1,by omega,this.2.2⟩
 · obtain ⟨_,_,c1,c2⟩:=h1.at' v (by omega)
   exact ⟨c1,by omega⟩
 · exact (h1.at' v (by omega)).2.2.2
def sX (bs : List Int) (seed : Int) : Nat → Int
 | 0 => IntKind.u64.wrap (IntKind.u64.wrap (seed * 7919) + IntKind.u64.wrap bs.length)
 | k + 1 => IntKind.u64.wrap (IntKind.u64.wrap (IntKind.u64.wrap (sX bs seed k * 1099511628211) + IntKind.u64.wrap (gi bs k)) + 3)
def u9 (bs : List Int) (hl : bs.length ≤ 4096) (hb : ∀ j,j < bs.length → 0 ≤ gi bs j ∧ gi bs j ≤ 255) (seed : Int) : Dc:=⟨bs,0,sX bs seed bs.length,hl,hb,by omega⟩
theorem wu (bs : List Int) (hl : bs.length ≤ 4096) (hb : ∀ j,j < bs.length → 0 ≤ gi bs j ∧ gi bs j ≤ 255) (seed : Int) : dJ Try.prog 23 (fun _=>[.c (.Y bs),.c (.int .u64 seed)]) [] [] [diE (u9 bs hl hb seed)] (fun ns=>.ad (ns.getD 0 0) 0):=by
 (refine fJ aI Try.func23 rfl rfl (fun _=>by kernel_rfl) rfl rfl rfl rfl (by first|exact jy _|exact ip (j:=0) (by simp) (by simp [Ent.kind])|exact iq (j:=0) (by simp) (by simp [Ent.kind])|exact fI rfl|exact gL|exact jz _) fun hp0 ν hX hN=>?_;simp only [bW,Nat.reduceAdd])
 (repeat' (first|(with_reducible first|(apply hK;clear hK K)|refine stZ ?_|refine aT rfl ?_|((first|apply ae|apply af);clear ae X af Y))|(with_reducible refine aW ?_;first|refine aU rfl ?_|refine aV rfl ?_)|(with_reducible refine b8 ?_;refine cc hN ?_)|((with_reducible first|((first|refine aZ ?_|refine ce ?_|refine a8 ?_|refine cf ?_);intro K hK)|(refine aE ?_;intro X Y ae af)|refine aF ?_);simp (disch:=first|decide|omega|(simp only [List.length_cons,List.length_nil];omega)) only [go_sem,↓aj hN,ak hN,reduceIte,reduceCtorEq,Nat.reduceAdd,Nat.reduceLT,Nat.reduceLeDiff,Nat.reduceEqDiff,Nat.reduceSub])|(with_reducible refine And.intro (fun h=>?_) (fun h=>?_) <;> try (exfalso;omega))|(with_reducible refine aY aI hN ?_)|(with_reducible refine bF aI hN ?_)|(with_reducible refine And.intro ?_ ?_)|(refine ah ?_;omega)|(exact aX hN (by decide))))
 (refine bT (fun (k : Nat)=>(tmL [(6,.c (.int .i64 k)),(5,.ad (ν 0) 0),(0,.c (.Y bs))],hpL hp0 ν [.box [.c (.Y bs),.c (.int .i64 0),.c (.int .u64 (sX bs seed k))]])) (fun (k : Nat)=>k ≤ bs.length) (fun (k : Nat)=>bs.length - k) ⟨0,?_,bB hX hN [] ?_ ?_⟩ ?_;(repeat' (first|(with_reducible first|exact clZ|refine bw ?_ ?_|refine bz ?_ ?_|rfl|refine suZ ?_)|refine bA rfl ?_ ?_|exact aP hN _ rfl rfl rfl|exact aQ hN _ rfl rfl rfl|exact ax hN _ rfl rfl rfl (Or.inr rfl)|(refine aR hN _ rfl rfl (by first|exact Or.inr rfl|exact Or.inl rfl) ?_;first|exact aC _|exact aD _)|refine ay hN rfl ?_|refine az hN rfl rfl ?_|exact au hN _ rfl rfl|exact aA hN rfl rfl rfl rfl|(with_reducible first|refine stZ ?_|refine aO ?_)));(try (any_goals (first|(with_reducible rfl)|(refine ah ?_;omega)))))
 · rfl
 intro k hk
 (repeat' (first|(with_reducible first|(apply hK;clear hK K)|refine stZ ?_|refine aT rfl ?_|((first|apply ae|apply af);clear ae X af Y))|(with_reducible refine aW ?_;first|refine aU rfl ?_|refine aV rfl ?_)|(with_reducible refine b8 ?_;refine cc hN ?_)|((with_reducible first|((first|refine aZ ?_|refine ce ?_|refine a8 ?_|refine cf ?_);intro K hK)|(refine aE ?_;intro X Y ae af)|refine aF ?_);simp (disch:=first|decide|omega|(simp only [List.length_cons,List.length_nil];omega)) only [go_sem,↓aj hN,ak hN,reduceIte,reduceCtorEq,Nat.reduceAdd,Nat.reduceLT,Nat.reduceLeDiff,Nat.reduceEqDiff,Nat.reduceSub])|(with_reducible refine And.intro (fun h=>?_) (fun h=>?_) <;> try (exfalso;omega))|(with_reducible refine aY aI hN ?_)|(with_reducible refine bF aI hN ?_)|(with_reducible refine And.intro ?_ ?_)|(refine ah ?_;omega)|(exact aX hN (by decide))))
 · (refine ⟨k + 1,⟨?_,?_⟩,bB hX hN [] ?_ ?_⟩;(try any_goals dsimp only);(repeat' (first|(with_reducible first|exact clZ|refine bw ?_ ?_|refine bz ?_ ?_|rfl|refine suZ ?_)|refine bA rfl ?_ ?_|exact aP hN _ rfl rfl rfl|exact aQ hN _ rfl rfl rfl|exact ax hN _ rfl rfl rfl (Or.inr rfl)|(refine aR hN _ rfl rfl (by first|exact Or.inr rfl|exact Or.inl rfl) ?_;first|exact aC _|exact aD _)|refine ay hN rfl ?_|refine az hN rfl rfl ?_|exact au hN _ rfl rfl|exact aA hN rfl rfl rfl rfl|(with_reducible first|refine stZ ?_|refine aO ?_)));(try (any_goals (first|(with_reducible rfl)|(refine ah ?_;omega)))))
   rfl
 · (refine ⟨.inr rfl,_,(by first|exact bZ rfl rfl|exact bU hN rfl rfl rfl rfl|exact bQ hN rfl rfl rfl rfl rfl|(simp (disch:=first|decide|omega|(simp only [List.length_cons,List.length_nil];omega)) only [bG,bK,bN,bO,go_sem,beq_self_eq_true,↓ao,↓aj hN,ak hN,reduceIte,reduceCtorEq,Nat.reduceAdd,Nat.reduceLT,Nat.reduceLeDiff,Nat.reduceEqDiff,Nat.reduceSub];rfl)|rfl),[],_,rfl,?_,rfl,?_⟩;(all_goals try simp only [List.drop,List.take,List.cons_append,List.nil_append,nmL,List.length_cons,List.length_nil,Nat.reduceAdd,List.getD_cons_zero]);(repeat' (first|(with_reducible first|exact clZ|refine bw ?_ ?_|refine bz ?_ ?_|rfl|refine suZ ?_)|refine bA rfl ?_ ?_|exact aP hN _ rfl rfl rfl|exact aQ hN _ rfl rfl rfl|exact ax hN _ rfl rfl rfl (Or.inr rfl)|(refine aR hN _ rfl rfl (by first|exact Or.inr rfl|exact Or.inl rfl) ?_;first|exact aC _|exact aD _)|refine ay hN rfl ?_|refine az hN rfl rfl ?_|exact au hN _ rfl rfl|exact aA hN rfl rfl rfl rfl|(with_reducible first|refine stZ ?_|refine aO ?_))))
   all_goals first|rfl|(rw [show k = bs.length by omega];rfl)
theorem sY (d : Dc) (most : Int) (hm : 1 ≤ most ∧ most ≤ 16) : dJ Try.prog 24 (fun ν=>[.ad (ν 0) 0,.c (.int .i64 most)]) [diE d] [diE (gx d most 6).2] [] (fun _=>paA (gx d most 6).1):=by
 have hb:=d.bnd hm.1
 (refine fJ aI Try.func24 rfl rfl (fun _=>by kernel_rfl) rfl rfl rfl rfl (by first|exact jy _|exact ip (j:=0) (by simp) (by simp [Ent.kind])|exact iq (j:=0) (by simp) (by simp [Ent.kind])|exact fI rfl|exact gL|exact jz _) fun hp0 ν hX hN=>?_;simp only [bW,Nat.reduceAdd])
 (repeat' (first|(with_reducible first|(apply hK;clear hK K)|refine stZ ?_|refine aT rfl ?_|((first|apply ae|apply af);clear ae X af Y))|(with_reducible refine aW ?_;first|refine aU rfl ?_|refine aV rfl ?_)|(with_reducible refine b8 ?_;refine cc hN ?_)|((with_reducible first|((first|refine aZ ?_|refine ce ?_|refine a8 ?_|refine cf ?_);intro K hK)|(refine aE ?_;intro X Y ae af)|refine aF ?_);simp (disch:=first|decide|omega|(simp only [List.length_cons,List.length_nil];omega)) only [go_sem,↓aj hN,ak hN,reduceIte,reduceCtorEq,Nat.reduceAdd,Nat.reduceLT,Nat.reduceLeDiff,Nat.reduceEqDiff,Nat.reduceSub])|(with_reducible refine And.intro (fun h=>?_) (fun h=>?_) <;> try (exfalso;omega))|(with_reducible refine aY aI hN ?_)|(with_reducible refine bF aI hN ?_)|(refine dk (fa d most (by omega)) hN 0 rfl rfl rfl rfl rfl ?_ ?_ ?_ ?_;(focus (simp [a9,AV.names];done));(focus (intro ν' hν;(repeat' (first|exact ArgMs.nil|refine ArgMs.cons ?_ ?_|exact gf hν|exact gg hν|exact jm _|exact iR (by first|exact aL _|exact aJ _|exact aK rfl rfl rfl) rfl|(refine gh hN rfl ?_ (by decide);first|exact aC _|exact aD _)|refine ec ?_));done));(focus (first|exact Or.inr ⟨rfl,rfl,fun _=>rfl⟩|exact Or.inl (by simp [a9,AV.names]))))|(with_reducible first|exact aq|refine am ?_ ?_|exact bH _|refine aM ?_|exact aL _|exact bj _ _|refine bi ?_|exact aJ _)|exact aN hN rfl rfl|(refine bh hN rfl ?_;first|exact aC _|exact aD _)|exact aK rfl rfl rfl|(simp only [ba,List.map_nil])|(with_reducible refine bu ?_)|(simp (disch:=first|decide|omega|(simp only [List.length_cons,List.length_nil];omega)) only [ba,List.map_cons,List.map_nil,ak hN,List.set_cons_zero,List.set_cons_succ])|(with_reducible refine And.intro ?_ ?_)|(refine ah ?_;omega)|(exact aX hN (by decide))))
 have hm2:=hm.2
 generalize hn : 1 + d.val most = n at *
 have hn0 : 1 ≤ n ∧ n ≤ 16:=by omega
 have hG : gx d most 6 = eN n 6 n.toNat d.nxt [] [] []:=by unfold gx;rw [hn]
 generalize gx d most 6 = G at *
 (refine bT (fun (x : Nat × Dc × List Int × List (List Int) × List Int)=>(tmL [(7,.c (.int .i64 x.1)),(6,.ad (ν 2) 0),(5,.c (.int .i64 n)),(4,.ad (ν 1) 0),(0,.ad (ν 0) 0)],hpL hp0 ν [diE x.2.1,.box [.c .nul,.c .nul,.c .nul],.box [.sl (ν 3),.sl (ν 4),.sl (ν 5)],.arr 2 .may (.I x.2.2.1),.arr 22 .may (.R x.2.2.2.1),.arr 2 .may (.I x.2.2.2.2)])) (fun (x : Nat × Dc × List Int × List (List Int) × List Int)=>((x.1 : Int) ≤ n ∧ x.2.2.1.length = x.1 ∧ x.2.2.2.1.length = x.1 ∧ x.2.2.2.2.length = x.1) ∧ eN n 6 (n.toNat - x.1) x.2.1 x.2.2.1 x.2.2.2.1 x.2.2.2.2 = G) (fun (x : Nat × Dc × List Int × List (List Int) × List Int)=>n.toNat - x.1) ⟨(0,d.nxt,[],[],[]),?_,bB hX hN [] ?_ ?_⟩ ?_;(repeat' (first|(with_reducible first|exact clZ|refine bw ?_ ?_|refine bz ?_ ?_|rfl|refine suZ ?_)|refine bA rfl ?_ ?_|exact aP hN _ rfl rfl rfl|exact aQ hN _ rfl rfl rfl|exact ax hN _ rfl rfl rfl (Or.inr rfl)|(refine aR hN _ rfl rfl (by first|exact Or.inr rfl|exact Or.inl rfl) ?_;first|exact aC _|exact aD _)|refine ay hN rfl ?_|refine az hN rfl rfl ?_|exact au hN _ rfl rfl|exact aA hN rfl rfl rfl rfl|(with_reducible first|refine stZ ?_|refine aO ?_)));(try (any_goals (first|(with_reducible rfl)|(refine ah ?_;omega)))))
 · exact ⟨⟨by omega,rfl,rfl,rfl⟩,hG.symm⟩
 rintro ⟨v,dd,o,xx,p⟩ ⟨⟨hv,h1,h2,h3⟩,hGo⟩
 simp only at hv h1 h2 h3 hGo
 dsimp only
 have hb3:=dd.bnd (n:=3) (by omega)
 (repeat' (first|(with_reducible first|(apply hK;clear hK K)|refine stZ ?_|refine aT rfl ?_|((first|apply ae|apply af);clear ae X af Y))|(with_reducible refine aW ?_;first|refine aU rfl ?_|refine aV rfl ?_)|(with_reducible refine b8 ?_;refine cc hN ?_)|((with_reducible first|((first|refine aZ ?_|refine ce ?_|refine a8 ?_|refine cf ?_);intro K hK)|(refine aE ?_;intro X Y ae af)|refine aF ?_);simp (disch:=first|decide|omega|(simp only [List.length_cons,List.length_nil];omega)) only [go_sem,↓aj hN,ak hN,reduceIte,reduceCtorEq,Nat.reduceAdd,Nat.reduceLT,Nat.reduceLeDiff,Nat.reduceEqDiff,Nat.reduceSub])|(with_reducible refine And.intro (fun h=>?_) (fun h=>?_) <;> try (exfalso;omega))|(with_reducible refine aY aI hN ?_)|(with_reducible refine bF aI hN ?_)|(refine dk (fa dd 3 (by omega)) hN 0 rfl rfl rfl rfl rfl ?_ ?_ ?_ ?_;(focus (simp [a9,AV.names];done));(focus (intro ν' hν;(repeat' (first|exact ArgMs.nil|refine ArgMs.cons ?_ ?_|exact gf hν|exact gg hν|exact jm _|exact iR (by first|exact aL _|exact aJ _|exact aK rfl rfl rfl) rfl|(refine gh hN rfl ?_ (by decide);first|exact aC _|exact aD _)|refine ec ?_));done));(focus (first|exact Or.inr ⟨rfl,rfl,fun _=>rfl⟩|exact Or.inl (by simp [a9,AV.names]))))|(with_reducible first|exact aq|refine am ?_ ?_|exact bH _|refine aM ?_|exact aL _|exact bj _ _|refine bi ?_|exact aJ _)|exact aN hN rfl rfl|(refine bh hN rfl ?_;first|exact aC _|exact aD _)|exact aK rfl rfl rfl|(simp only [ba,List.map_nil])|(with_reducible refine bu ?_)|(simp (disch:=first|decide|omega|(simp only [List.length_cons,List.length_nil];omega)) only [ba,List.map_cons,List.map_nil,ak hN,List.set_cons_zero,List.set_cons_succ])|(with_reducible refine And.intro ?_ ?_)|(refine ah ?_;omega)|(exact aX hN (by decide))))
 · have hvn : (v : Int) < n:=by assumption
   have hgo1 : n.toNat - v = (n.toNat - (v + 1)) + 1:=by omega
   rw [hgo1,eN] at hGo
   generalize hR : dL n (1 + dd.val 3).toNat dd.nxt [] = R at hGo
   (refine bT (fun (z : Nat × Dc × List Int)=>(tmL [(9,.c (.int .i64 z.1)),(8,.c (.I z.2.2)),(7,.c (.int .i64 v)),(6,.ad (ν 2) 0),(5,.c (.int .i64 n)),(4,.ad (ν 1) 0),(0,.ad (ν 0) 0)],hpL hp0 ν [diE z.2.1,.box [.c .nul,.c .nul,.c .nul],.box [.sl (ν 3),.sl (ν 4),.sl (ν 5)],.arr 2 .may (.I o),.arr 22 .may (.R xx),.arr 2 .may (.I p)])) (fun (z : Nat × Dc × List Int)=>(z.2.2.length + z.1 ≤ 3 ∧ bD z.2.2 n) ∧ dL n z.1 z.2.1 z.2.2 = R) (fun (z : Nat × Dc × List Int)=>z.1) ⟨((1 + dd.val 3).toNat,dd.nxt,[]),?_,bB hX hN [] ?_ ?_⟩ ?_;(repeat' (first|(with_reducible first|exact clZ|refine bw ?_ ?_|refine bz ?_ ?_|rfl|refine suZ ?_)|refine bA rfl ?_ ?_|exact aP hN _ rfl rfl rfl|exact aQ hN _ rfl rfl rfl|exact ax hN _ rfl rfl rfl (Or.inr rfl)|(refine aR hN _ rfl rfl (by first|exact Or.inr rfl|exact Or.inl rfl) ?_;first|exact aC _|exact aD _)|refine ay hN rfl ?_|refine az hN rfl rfl ?_|exact au hN _ rfl rfl|exact aA hN rfl rfl rfl rfl|(with_reducible first|refine stZ ?_|refine aO ?_)));(try (any_goals (first|(with_reducible rfl)|(refine ah ?_;omega)))))
   · exact ⟨⟨by simp;omega,iY n⟩,hR⟩
   rintro ⟨m,de,row⟩ ⟨⟨hm1,hm2⟩,hRo⟩
   simp only at hm1 hm2 hRo
   dsimp only
   have hbn:=de.bnd (n:=n) (by omega)
   have hR2:=R.2.bnd (n:=2) (by omega)
   have hR3:=R.2.nxt.bnd (n:=6) (by omega)
   have hs256 : bD row 256:=fun k hk=>by have:=hm2 k hk;exact ⟨this.1,by omega,this.2.2⟩
   (repeat' (first|(with_reducible first|(apply hK;clear hK K)|refine stZ ?_|refine aT rfl ?_|((first|apply ae|apply af);clear ae X af Y))|(with_reducible refine aW ?_;first|refine aU rfl ?_|refine aV rfl ?_)|(with_reducible refine b8 ?_;refine cc hN ?_)|((with_reducible first|((first|refine aZ ?_|refine ce ?_|refine a8 ?_|refine cf ?_);intro K hK)|(refine aE ?_;intro X Y ae af)|refine aF ?_);simp (disch:=first|decide|omega|(simp only [List.length_cons,List.length_nil];omega)) only [go_sem,↓aj hN,ak hN,reduceIte,reduceCtorEq,Nat.reduceAdd,Nat.reduceLT,Nat.reduceLeDiff,Nat.reduceEqDiff,Nat.reduceSub])|(with_reducible refine And.intro (fun h=>?_) (fun h=>?_) <;> try (exfalso;omega))|(with_reducible refine aY aI hN ?_)|(with_reducible refine bF aI hN ?_)|(refine dk (fa de n (by omega)) hN 0 rfl rfl rfl rfl rfl ?_ ?_ ?_ ?_;(focus (simp [a9,AV.names];done));(focus (intro ν' hν;(repeat' (first|exact ArgMs.nil|refine ArgMs.cons ?_ ?_|exact gf hν|exact gg hν|exact jm _|exact iR (by first|exact aL _|exact aJ _|exact aK rfl rfl rfl) rfl|(refine gh hN rfl ?_ (by decide);first|exact aC _|exact aD _)|refine ec ?_));done));(focus (first|exact Or.inr ⟨rfl,rfl,fun _=>rfl⟩|exact Or.inl (by simp [a9,AV.names]))))|(refine sy (qW row [de.val n] hs256 (iZ (by omega) (by omega))) hN 6 ?_ rfl rfl rfl ?_;focus ((repeat' (first|(with_reducible first|exact aq|refine am ?_ ?_|exact bH _|refine aM ?_|exact aL _|exact bj _ _|refine bi ?_|exact aJ _)|exact aN hN rfl rfl|(refine bh hN rfl ?_;first|exact aC _|exact aD _)|exact aK rfl rfl rfl));done))|(refine dk (fa de 2 (by omega)) hN 0 rfl rfl rfl rfl rfl ?_ ?_ ?_ ?_;(focus (simp [a9,AV.names];done));(focus (intro ν' hν;(repeat' (first|exact ArgMs.nil|refine ArgMs.cons ?_ ?_|exact gf hν|exact gg hν|exact jm _|exact iR (by first|exact aL _|exact aJ _|exact aK rfl rfl rfl) rfl|(refine gh hN rfl ?_ (by decide);first|exact aC _|exact aD _)|refine ec ?_));done));(focus (first|exact Or.inr ⟨rfl,rfl,fun _=>rfl⟩|exact Or.inl (by simp [a9,AV.names]))))|(refine dk (fa de.nxt 6 (by omega)) hN 0 rfl rfl rfl rfl rfl ?_ ?_ ?_ ?_;(focus (simp [a9,AV.names];done));(focus (intro ν' hν;(repeat' (first|exact ArgMs.nil|refine ArgMs.cons ?_ ?_|exact gf hν|exact gg hν|exact jm _|exact iR (by first|exact aL _|exact aJ _|exact aK rfl rfl rfl) rfl|(refine gh hN rfl ?_ (by decide);first|exact aC _|exact aD _)|refine ec ?_));done));(focus (first|exact Or.inr ⟨rfl,rfl,fun _=>rfl⟩|exact Or.inl (by simp [a9,AV.names]))))|(with_reducible first|exact aq|refine am ?_ ?_|exact bH _|refine aM ?_|exact aL _|exact bj _ _|refine bi ?_|exact aJ _)|exact aN hN rfl rfl|(refine bh hN rfl ?_;first|exact aC _|exact aD _)|exact aK rfl rfl rfl|(simp only [ba,List.map_nil])|(with_reducible refine bu ?_)|(simp (disch:=first|decide|omega|(simp only [List.length_cons,List.length_nil];omega)) only [ba,List.map_cons,List.map_nil,ak hN,List.set_cons_zero,List.set_cons_succ])|(with_reducible refine And.intro ?_ ?_)|(refine ah ?_;omega)|(exact aX hN (by decide))))
   · have hm0 : 0 < m:=by omega
     have hbl:=iX [de.val n] row
     rw [show m = (m - 1) + 1 by omega,dL] at hRo
     (refine ⟨(m - 1,de.nxt,fw row [de.val n]),⟨?_,?_⟩,bB hX hN [] ?_ ?_⟩;(try any_goals dsimp only);(repeat' (first|(with_reducible first|exact clZ|refine bw ?_ ?_|refine bz ?_ ?_|rfl|refine suZ ?_)|refine bA rfl ?_ ?_|exact aP hN _ rfl rfl rfl|exact aQ hN _ rfl rfl rfl|exact ax hN _ rfl rfl rfl (Or.inr rfl)|(refine aR hN _ rfl rfl (by first|exact Or.inr rfl|exact Or.inl rfl) ?_;first|exact aC _|exact aD _)|refine ay hN rfl ?_|refine az hN rfl rfl ?_|exact au hN _ rfl rfl|exact aA hN rfl rfl rfl rfl|(with_reducible first|refine stZ ?_|refine aO ?_)));(try (any_goals (first|(with_reducible rfl)|(refine ah ?_;omega)))))
     exact ⟨⟨by simp at hbl ⊢;omega,jg hm2 (iZ hbn.1 hbn.2)⟩,hRo⟩
   · have hm0 : m = 0:=by omega
     subst hm0
     rw [dL] at hRo
     subst hRo
     (refine ⟨(v + 1,de.nxt.nxt,o ++ [de.val 2],xx ++ [row],p ++ [de.nxt.val 6]),⟨?_,?_⟩,bB hX hN [(3,7),(4,9),(5,11)] ?_ ?_⟩;(try any_goals dsimp only);(repeat' (first|(with_reducible first|exact clZ|refine bw ?_ ?_|refine bz ?_ ?_|rfl|refine suZ ?_)|refine bA rfl ?_ ?_|exact aP hN _ rfl rfl rfl|exact aQ hN _ rfl rfl rfl|exact ax hN _ rfl rfl rfl (Or.inr rfl)|(refine aR hN _ rfl rfl (by first|exact Or.inr rfl|exact Or.inl rfl) ?_;first|exact aC _|exact aD _)|refine ay hN rfl ?_|refine az hN rfl rfl ?_|exact au hN _ rfl rfl|exact aA hN rfl rfl rfl rfl|(with_reducible first|refine stZ ?_|refine aO ?_)));(try (any_goals (first|(with_reducible rfl)|(refine ah ?_;omega)))))
     exact ⟨⟨by omega,by simp [h1],by simp [h2],by simp [h3]⟩,hGo⟩
 · rw [show n.toNat - v = 0 by omega,eN] at hGo
   subst hGo
   (refine ⟨.inr rfl,_,(by first|exact bZ rfl rfl|exact bU hN rfl rfl rfl rfl|exact bQ hN rfl rfl rfl rfl rfl|(simp (disch:=first|decide|omega|(simp only [List.length_cons,List.length_nil];omega)) only [bG,bK,bN,bO,go_sem,beq_self_eq_true,↓ao,↓aj hN,ak hN,reduceIte,reduceCtorEq,Nat.reduceAdd,Nat.reduceLT,Nat.reduceLeDiff,Nat.reduceEqDiff,Nat.reduceSub];rfl)|rfl),[],_,rfl,?_,rfl,?_⟩;(all_goals try simp only [List.drop,List.take,List.cons_append,List.nil_append,nmL,List.length_cons,List.length_nil,Nat.reduceAdd,List.getD_cons_zero]);(repeat' (first|(with_reducible first|exact clZ|refine bw ?_ ?_|refine bz ?_ ?_|rfl|refine suZ ?_)|refine bA rfl ?_ ?_|exact aP hN _ rfl rfl rfl|exact aQ hN _ rfl rfl rfl|exact ax hN _ rfl rfl rfl (Or.inr rfl)|(refine aR hN _ rfl rfl (by first|exact Or.inr rfl|exact Or.inl rfl) ?_;first|exact aC _|exact aD _)|refine ay hN rfl ?_|refine az hN rfl rfl ?_|exact au hN _ rfl rfl|exact aA hN rfl rfl rfl rfl|(with_reducible first|refine stZ ?_|refine aO ?_))))
end Go.Proofs.Ythjamlponejffaa
