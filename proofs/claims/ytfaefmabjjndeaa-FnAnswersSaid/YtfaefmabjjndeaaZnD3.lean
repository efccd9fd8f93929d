/-
  The games, the plans that the dice draw.
-/
import Derived.Test.YtfaefmabjjndeaaZnFc
import Derived.Test.YtfaefmabjjndeaaZnG3
import Derived.Test.YtfaefmabjjndeaaZnKf
namespace Go.Proofs.Ytfaefmabjjndeaa
set_option linter.unusedVariables false
set_option linter.unusedSimpArgs false
open Go.RowKit
attribute [local irreducible] ax cJ Aw Le
structure Dc where
 bs : List Int
 i : Int
 h : Int
 len : bs.length ≤ 4096
 byt : ∀ j,j < bs.length → 0 ≤ gi bs j ∧ gi bs j ≤ 255
 ok : 0 ≤ i ∧ i ≤ bs.length
def dH (h : Int) : Int:=IntKind.u64.wrap (IntKind.u64.wrap (h * 6364136223846793005) + 1442695040888963407)
def dX (h : Int) : Int:=IntKind.i64.wrap (oI .u64 (oJ .u64 (dH h) 33) 16777215)
def Dc.nxt (d : Dc) : Dc:=⟨d.bs,if d.i < d.bs.length then d.i + 1 else d.i,dH d.h,d.len,d.byt,by have:=d.ok;split <;> omega⟩
def Dc.val (d : Dc) (n : Int) : Int:=(if d.i < d.bs.length then IntKind.i64.wrap (dX d.h + IntKind.i64.wrap (gi d.bs d.i.toNat)) else dX d.h).tmod n
abbrev diE (d : Dc) : Ent:=.box [.c (.Y d.bs),.c (.int .i64 d.i),.c (.int .u64 d.h)]
theorem uz (h : Int) : 0 ≤ dX h ∧ dX h ≤ 16777215:=by
 have h1 : ∀ a : Int,0 ≤ oI .u64 a 16777215 ∧ oI .u64 a 16777215 ≤ 16777215:=fun a=>by
  unfold oI
  have h2 : (BitVec.ofInt IntKind.u64.bits a &&& BitVec.ofInt IntKind.u64.bits 16777215).toNat ≤ 16777215:=by
   rw [BitVec.toNat_and]
   exact Nat.le_trans Nat.and_le_right (by decide)
  generalize (BitVec.ofInt IntKind.u64.bits a &&& BitVec.ofInt IntKind.u64.bits 16777215).toNat = m at *
  rw [show IntKind.u64.wrap (m : Int) = m by simp [IntKind.wrap,IntKind.bits,IntKind.signed];omega]
  omega
 obtain ⟨h2,h3⟩:=h1 (oJ .u64 (dH h) 33)
 unfold dX
 rw [qH (by omega)]
 exact ⟨h2,h3⟩
theorem Dc.bnd (d : Dc) {n : Int} (hn : 1 ≤ n) : 0 ≤ d.val n ∧ d.val n < n:=by
 have hx:=uz d.h
 have hv : 0 ≤ (if d.i < d.bs.length then IntKind.i64.wrap (dX d.h + IntKind.i64.wrap (gi d.bs d.i.toNat)) else dX d.h):=by
  split
  · rename_i h
    have hb:=d.byt d.i.toNat (by have:=d.ok;omega)
    rw [qH (n:=gi d.bs d.i.toNat) (by omega),qH (by omega)]
    omega
  · exact hx.1
 unfold Dc.val
 rw [Int.tmod_eq_emod_of_nonneg hv]
 exact ⟨Int.emod_nonneg _ (by omega),Int.emod_lt_of_pos _ (by omega)⟩
theorem gd (d : Dc) (n : Int) (hn : 1 ≤ n ∧ n ≤ 1125899906842624) : dG Try.prog 29 (fun ν=>[.ad (ν 0) 0,.c (.int .i64 n)]) [diE d] [diE d.nxt] [] (fun _=>.c (.int .i64 (d.val n))):=by
 obtain ⟨bs,i,h0,hl,hb,hi⟩:=d
 (refine f6 aP Try.func29 rfl rfl (fun _=>by kernel_rfl) rfl rfl rfl rfl (by first|exact jp _|exact iv (j:=0) (by simp) (by simp [Ent.kind])|exact iw (j:=0) (by simp) (by simp [Ent.kind])|exact fZ rfl|exact gV|exact jq _) fun hp0 ν hX hN=>?_;simp only [cK,Nat.reduceAdd])
 (repeat' (first|(with_reducible first|(refine hK _ _ ?_;clear hK K)|(refine aa _ ?_;clear aa K)|(refine ab _ _ _ ?_;clear ab K)|(refine ac _ _ ?_;clear ac K)|refine bj ?_|refine cc ?_|refine bc ?_|refine aq ?_|refine ap ?_|refine ce ?_|refine aJ ?_|refine bd ?_|refine cf ?_|refine be ?_|refine bf rfl ?_|refine bm ?_|refine bg ?_|refine cg ?_|refine bh ?_|refine aI ?_|refine n_k ?_|refine bi ?_|(refine ae ?_;clear ae X af Y)|(refine af ?_;clear ae X af Y))|(with_reducible refine br ?_;first|refine bo rfl ?_|refine bp rfl ?_)|(with_reducible refine bz ?_;first|refine au rfl rfl rfl rfl ?_|refine aL rfl rfl rfl ?_|refine bv rfl rfl rfl rfl ?_)|(with_reducible refine cD ?_;first|refine bY rfl rfl rfl rfl ?_|refine ck rfl rfl rfl ?_|refine cG rfl rfl rfl rfl ?_|refine cH hN (by apply Exists.intro;apply And.intro;(repeat' (first|apply FtI.nil|apply FI.nil|apply FI.cons|apply FtI.cons));kernel_rfl) ?_)|((first|(with_reducible first|refine bt rfl rfl fun K hK=>?_|refine cE rfl rfl fun K ab=>?_|refine bu rfl rfl fun K aa=>?_|refine cF rfl rfl fun K ac=>?_|refine aK fun X Y ae af=>?_|refine aM ?_));simp (disch:=first|decide|omega|(simp only [List.length_cons,List.length_nil];omega)) only [go_sem,beq_self_eq_true,↓aj,↓ak hN,am hN,reduceIte,reduceCtorEq,Nat.reduceAdd,Nat.reduceLT,Nat.reduceLeDiff,Nat.reduceEqDiff,Nat.reduceSub])|(with_reducible refine And.intro (fun h=>?_) (fun h=>?_) <;> try (exfalso;omega))|(with_reducible refine bn aP hN rfl ?_ ?_;kernel_rfl)|(with_reducible refine bZ aP hN rfl ?_ ?_ ?_ ?_;(kernel_rfl);(kernel_rfl);(kernel_rfl))|(with_reducible refine And.intro ?_ ?_)|(refine ah ?_;omega)|(exact bw hN (by decide))))
 · (refine ⟨.inr rfl,_,(by first|exact cP rfl rfl|exact cI hN rfl rfl rfl rfl|exact cA hN rfl rfl rfl rfl rfl|(simp (disch:=first|decide|omega|(simp only [List.length_cons,List.length_nil];omega)) only [cj,cn,cu,cy,go_sem,beq_self_eq_true,↓aj,↓ak hN,am hN,reduceIte,reduceCtorEq,Nat.reduceAdd,Nat.reduceLT,Nat.reduceLeDiff,Nat.reduceEqDiff,Nat.reduceSub];rfl)|rfl),[],_,rfl,?_,rfl,?_⟩;(all_goals try simp only [List.drop,List.take,List.cons_append,List.nil_append,nmL,List.length_cons,List.length_nil,Nat.reduceAdd,List.getD_cons_zero]);(repeat' (first|(with_reducible first|exact bP _|exact bQ|exact bR|refine bS ?_ ?_|refine bT ?_ ?_|exact ay _|exact bN _|exact ao _|rfl|exact aS _ _|refine aA ?_|exact bO _|refine aW ?_)|refine bU rfl ?_ ?_|exact aT hN _ rfl rfl rfl|exact aU hN _ rfl rfl rfl|exact aB hN _ rfl rfl rfl (Or.inr rfl)|(refine aV hN _ rfl rfl (by first|exact Or.inr rfl|exact Or.inl rfl) ?_;first|exact aN _|exact aO _)|refine aC hN rfl ?_|refine aD hN rfl rfl ?_|exact az hN _ rfl rfl|exact aE hN rfl rfl rfl rfl|(with_reducible first|refine aR ?_|refine bF ?_|refine bH ?_|refine bI ?_|refine bG ?_|refine bE ?_))))
   all_goals simp [Dc.nxt,Dc.val,dX,dH, *]
 · (refine ⟨.inr rfl,_,(by first|exact cP rfl rfl|exact cI hN rfl rfl rfl rfl|exact cA hN rfl rfl rfl rfl rfl|(simp (disch:=first|decide|omega|(simp only [List.length_cons,List.length_nil];omega)) only [cj,cn,cu,cy,go_sem,beq_self_eq_true,↓aj,↓ak hN,am hN,reduceIte,reduceCtorEq,Nat.reduceAdd,Nat.reduceLT,Nat.reduceLeDiff,Nat.reduceEqDiff,Nat.reduceSub];rfl)|rfl),[],_,rfl,?_,rfl,?_⟩;(all_goals try simp only [List.drop,List.take,List.cons_append,List.nil_append,nmL,List.length_cons,List.length_nil,Nat.reduceAdd,List.getD_cons_zero]);(repeat' (first|(with_reducible first|exact bP _|exact bQ|exact bR|refine bS ?_ ?_|refine bT ?_ ?_|exact ay _|exact bN _|exact ao _|rfl|exact aS _ _|refine aA ?_|exact bO _|refine aW ?_)|refine bU rfl ?_ ?_|exact aT hN _ rfl rfl rfl|exact aU hN _ rfl rfl rfl|exact aB hN _ rfl rfl rfl (Or.inr rfl)|(refine aV hN _ rfl rfl (by first|exact Or.inr rfl|exact Or.inl rfl) ?_;first|exact aN _|exact aO _)|refine aC hN rfl ?_|refine aD hN rfl rfl ?_|exact az hN _ rfl rfl|exact aE hN rfl rfl rfl rfl|(with_reducible first|refine aR ?_|refine bF ?_|refine bH ?_|refine bI ?_|refine bG ?_|refine bE ?_))))
   all_goals simp [Dc.nxt,Dc.val,dX,dH, *]
end Go.Proofs.Ytfaefmabjjndeaa
namespace Go.Proofs.Ytfaefmabjjndeaa
set_option linter.unusedVariables false
set_option linter.unusedSimpArgs false
open Go.RowKit
attribute [local irreducible] ax cJ Aw Le
def e9 : List Int → Int → List Int
 | [], x => [x]
 | y :: ys, x => if y < x then y :: e9 ys x else if y = x then y :: ys else x :: y :: ys
theorem mJ {x z : Int} : ∀ {xs : List Int},z ∈ e9 xs x ↔ z = x ∨ z ∈ xs:=by
 intro xs
 induction xs with
 | nil => simp [e9]
 | cons y ys ih =>
   unfold e9
   split
   · rw [List.mem_cons,ih,List.mem_cons]
     exact ⟨fun h=>h.elim (fun h=>.inr (.inl h)) fun h=>h.elim .inl fun h=>.inr (.inr h),fun h=>h.elim (fun h=>.inr (.inl h)) fun h=>h.elim .inl fun h=>.inr (.inr h)⟩
   · split
     · rename_i _ h;subst h
       exact ⟨fun h=>.inr h,fun h=>h.elim (fun h=>by rw [h];exact List.mem_cons_self) id⟩
     · rw [List.mem_cons]
theorem rs (x : Int) : ∀ xs : List Int,(e9 xs x).length ≤ xs.length + 1:=by
 intro xs
 induction xs with
 | nil => simp [e9]
 | cons y ys ih =>
   unfold e9
   split
   · simp;omega
   · split
     · simp
     · simp
theorem lF {x : Int} : ∀ {xs : List Int} {k : Nat},k ≤ xs.length → (∀ j,j < k → gi xs j < x) → (k < xs.length → ¬ gi xs k < x) → e9 xs x = if k < xs.length ∧ gi xs k = x then xs else xs.take k ++ x :: xs.drop k:=by
 intro xs
 induction xs with
 | nil =>
   intro k hk _ _
   have : k = 0:=by simpa using hk
   subst this;rfl
 | cons y ys ih =>
   intro k hk h1 h2
   cases k with
   | zero =>
     have h3 : ¬ y < x:=h2 (by simp)
     unfold e9
     rw [if_neg h3]
     by_cases h4 : y = x
     · rw [if_pos h4,if_pos ⟨by simp,h4⟩]
     · rw [if_neg h4,if_neg fun h=>h4 h.2];rfl
   | succ k =>
     have h3 : y < x:=h1 0 (by omega)
     unfold e9
     rw [if_pos h3,ih (k:=k) (by simpa using hk) (fun j hj=>h1 (j + 1) (by omega)) (fun h=>h2 (by simpa using h))]
     by_cases h5 : k < ys.length ∧ gi ys k = x
     · rw [if_pos h5,if_pos ⟨by simpa using h5.1,h5.2⟩]
     · rw [if_neg h5,if_neg fun h=>h5 ⟨by simpa using h.1,h.2⟩];rfl
theorem ew {y m : Int} {ys : List Int} : cz (y :: ys) m ↔ (0 ≤ y ∧ y < m) ∧ cz ys m ∧ ∀ z,z ∈ ys → y < z:=by
 constructor
 · intro h
   have h0:=h 0 (by simp)
   refine ⟨⟨h0.1,h0.2.1⟩,fun k hk=>?_,fun z hz=>?_⟩
   · have:=h (k + 1) (by simpa using hk)
     refine ⟨this.1,this.2.1,fun hk0=>?_⟩
     have h2:=this.2.2 (by omega)
     obtain ⟨j,rfl⟩ : ∃ j,k = j + 1:=⟨k - 1,by omega⟩
     exact h2
   · obtain ⟨j,hj,e⟩:=c4 hz
     have key : ∀ j,j < ys.length → y < gi ys j:=by
      intro j
      induction j with
      | zero => intro hj; exact (h 1 (by simp; omega)).2.2 (by omega)
      | succ j ih =>
        intro hj
        have:=ih (by omega)
        have h2:=(h (j + 2) (by simp;omega)).2.2 (by omega)
        have h3 : gi ys j < gi ys (j + 1):=h2
        omega
     rw [← e];exact key j hj
 · rintro ⟨⟨h1,h2⟩,h3,h4⟩ k hk
   cases k with
   | zero => exact ⟨h1, h2, fun h => by omega⟩
   | succ k =>
     have hk' : k < ys.length:=by simpa using hk
     obtain ⟨a,b,c⟩:=h3 k hk'
     refine ⟨a,b,fun _=>?_⟩
     cases k with
     | zero => exact h4 _ (du hk')
     | succ k => exact c (by omega)
theorem nR {x m : Int} (h0 : 0 ≤ x) (h1 : x < m) : ∀ {xs : List Int},cz xs m → cz (e9 xs x) m:=by
 intro xs
 induction xs with
 | nil => intro _; exact ew.2 ⟨⟨h0, h1⟩, fun k hk => absurd hk (Nat.not_lt_zero _), fun z hz => by simp at hz⟩
 | cons y ys ih =>
   intro h
   obtain ⟨a,b,c⟩:=ew.1 h
   unfold e9
   split
   · refine ew.2 ⟨a,ih b,fun z hz=>?_⟩
     rcases mJ.1 hz with rfl|hz
     · assumption
     · exact c z hz
   · split
     · exact h
     · refine ew.2 ⟨⟨h0,h1⟩,h,fun z hz=>?_⟩
       rcases List.mem_cons.1 hz with rfl|hz
       · omega
       · have:=c z hz;omega
theorem rt (xs : List Int) (x : Int) (hl : xs.length ≤ 65536) : ax Try.prog 150 [.c (.I xs),.c (.int .i64 x)] [] (fun _=>.c (.I (e9 xs x))):=by
 (refine bV aP Try.func150 rfl rfl (by kernel_rfl) fun hp0 ν hX hN=>?_;simp only [cK,Nat.reduceAdd])
 (repeat' (first|(with_reducible first|(refine hK _ _ ?_;clear hK K)|(refine aa _ ?_;clear aa K)|refine bj ?_|refine cc ?_|refine bc ?_|refine aq ?_|refine ap ?_|refine ce ?_|refine aJ ?_|refine bd ?_|refine cf ?_|refine be ?_|refine bf rfl ?_|refine bm ?_|refine bg ?_|refine cg ?_|refine bh ?_|refine aI ?_|refine n_k ?_|refine bi ?_|(refine ae ?_;clear ae X af Y)|(refine af ?_;clear ae X af Y))|(with_reducible refine br ?_;first|refine bo rfl ?_|refine bp rfl ?_)|(with_reducible refine bz ?_;first|refine au rfl rfl rfl rfl ?_|refine aL rfl rfl rfl ?_|refine bv rfl rfl rfl rfl ?_)|((first|(with_reducible first|refine bt rfl rfl fun K hK=>?_|refine bu rfl rfl fun K aa=>?_|refine aK fun X Y ae af=>?_|refine aM ?_)|(with_reducible refine bz ?_;refine bJ rfl rfl fun X Y ae af=>?_));simp (disch:=first|decide|omega|(simp only [List.length_cons,List.length_nil];omega)) only [go_sem,beq_self_eq_true,↓aj,↓ak hN,am hN,reduceIte,reduceCtorEq,Nat.reduceAdd,Nat.reduceLT,Nat.reduceLeDiff,Nat.reduceEqDiff,Nat.reduceSub])|(with_reducible refine And.intro (fun h=>?_) (fun h=>?_) <;> try (exfalso;omega))|(with_reducible refine bn aP hN rfl ?_ ?_;kernel_rfl)|(with_reducible refine And.intro ?_ ?_)|(refine ah ?_;omega)|(exact bw hN (by decide))))
 (refine co (fun (k : Nat)=>(tmL [(5,.c (.int .i64 k)),(0,.c (.I xs)),(1,.c (.int .i64 x))],hpL hp0 ν [])) (fun (k : Nat)=>k ≤ xs.length ∧ ∀ j,j < k → gi xs j < x) (fun (k : Nat)=>xs.length - k) ⟨0,?_,bX hX hN [] ?_ ?_⟩ ?_;(repeat' (first|(with_reducible first|exact bP _|exact bQ|exact bR|refine bS ?_ ?_|refine bT ?_ ?_|exact ay _|exact bN _|exact ao _|rfl|exact aS _ _|refine aA ?_|exact bO _|refine aW ?_)|refine bU rfl ?_ ?_|exact aT hN _ rfl rfl rfl|exact aU hN _ rfl rfl rfl|exact aB hN _ rfl rfl rfl (Or.inr rfl)|(refine aV hN _ rfl rfl (by first|exact Or.inr rfl|exact Or.inl rfl) ?_;first|exact aN _|exact aO _)|refine aC hN rfl ?_|refine aD hN rfl rfl ?_|exact az hN _ rfl rfl|exact aE hN rfl rfl rfl rfl|(with_reducible first|refine aR ?_|refine bF ?_|refine bH ?_|refine bI ?_|refine bG ?_|refine bE ?_)));(try (any_goals (first|(with_reducible rfl)|(refine ah ?_;omega)))))
 · exact ⟨Nat.zero_le _,fun j hj=>absurd hj (Nat.not_lt_zero _)⟩
 rintro k ⟨hk,ho⟩
 have hdr : List.drop (Int.toNat 0) (List.take k xs) = xs.take k:=rfl
 have hdl : List.drop k (List.take xs.length xs) = xs.drop k:=by rw [List.take_length]
 have hl1 : (xs.take k).length = k:=by simp;omega
 have hl2 : (xs.drop k).length = xs.length - k:=by simp
 (repeat' (first|(with_reducible first|(refine hK _ _ ?_;clear hK K)|(refine aa _ ?_;clear aa K)|refine bj ?_|refine cc ?_|refine bc ?_|refine aq ?_|refine ap ?_|refine ce ?_|refine aJ ?_|refine bd ?_|refine cf ?_|refine be ?_|refine bf rfl ?_|refine bm ?_|refine bg ?_|refine cg ?_|refine bh ?_|refine aI ?_|refine n_k ?_|refine bi ?_|(refine ae ?_;clear ae X af Y)|(refine af ?_;clear ae X af Y))|(with_reducible refine br ?_;first|refine bo rfl ?_|refine bp rfl ?_)|(with_reducible refine bz ?_;first|refine au rfl rfl rfl rfl ?_|refine aL rfl rfl rfl ?_|refine bv rfl rfl rfl rfl ?_)|((first|(with_reducible first|refine bt rfl rfl fun K hK=>?_|refine bu rfl rfl fun K aa=>?_|refine aK fun X Y ae af=>?_|refine aM ?_)|(with_reducible refine bz ?_;refine bJ rfl rfl fun X Y ae af=>?_));simp (disch:=first|decide|omega|(simp only [List.length_cons,List.length_nil];omega)) only [go_sem,beq_self_eq_true,↓aj,↓ak hN,am hN,reduceIte,reduceCtorEq,Nat.reduceAdd,Nat.reduceLT,Nat.reduceLeDiff,Nat.reduceEqDiff,Nat.reduceSub])|(with_reducible refine And.intro (fun h=>?_) (fun h=>?_) <;> try (exfalso;omega))|(with_reducible refine bn aP hN rfl ?_ ?_;kernel_rfl)|(refine bK (iA ?_ ?_) ?_ rfl (fun _=>rfl) ?_)|(with_reducible first|exact aG|refine aF ?_ ?_|exact cC _|refine bC ?_|exact ba _|exact b9 _ _|refine b8 ?_|exact aZ _)|exact bD hN rfl rfl|(refine b7 hN rfl ?_;first|exact aN _|exact aO _)|exact a8 rfl rfl rfl|(simp only [bB,List.map_nil])|(with_reducible refine cm ?_)|(with_reducible refine And.intro ?_ ?_)|(refine ah ?_;omega)|(exact bw hN (by decide))))
 all_goals try simp only [hdr,hdl]
 all_goals try (refine ah ?_;omega)
 · (refine ⟨k + 1,⟨?_,?_⟩,bX hX hN [] ?_ ?_⟩;(try any_goals dsimp only);(repeat' (first|(with_reducible first|exact bP _|exact bQ|exact bR|refine bS ?_ ?_|refine bT ?_ ?_|exact ay _|exact bN _|exact ao _|rfl|exact aS _ _|refine aA ?_|exact bO _|refine aW ?_)|refine bU rfl ?_ ?_|exact aT hN _ rfl rfl rfl|exact aU hN _ rfl rfl rfl|exact aB hN _ rfl rfl rfl (Or.inr rfl)|(refine aV hN _ rfl rfl (by first|exact Or.inr rfl|exact Or.inl rfl) ?_;first|exact aN _|exact aO _)|refine aC hN rfl ?_|refine aD hN rfl rfl ?_|exact az hN _ rfl rfl|exact aE hN rfl rfl rfl rfl|(with_reducible first|refine aR ?_|refine bF ?_|refine bH ?_|refine bI ?_|refine bG ?_|refine bE ?_)));(try (any_goals (first|(with_reducible rfl)|(refine ah ?_;omega)))))
   exact ⟨by omega,dx ho (by assumption)⟩
 · (refine fl hN [] (by decide) (.inr rfl) (by first|exact cP rfl rfl|exact cI hN rfl rfl rfl rfl|exact cA hN rfl rfl rfl rfl rfl|(simp (disch:=first|decide|omega|(simp only [List.length_cons,List.length_nil];omega)) only [cj,cn,cu,cy,go_sem,beq_self_eq_true,↓aj,↓ak hN,am hN,reduceIte,reduceCtorEq,Nat.reduceAdd,Nat.reduceLT,Nat.reduceLeDiff,Nat.reduceEqDiff,Nat.reduceSub];rfl)|rfl) ?_ fun νs hνs=>?_;(repeat' (first|exact Gone.nil|(refine Gone.cons rfl rfl ?_ ?_)|(with_reducible refine ec ?_)|(with_reducible refine eb ?_)|(with_reducible refine SVs.cons ?_ ?_)|(with_reducible exact SVs.nil)|(simp only [List.drop,List.take])|(simp (disch:=first|decide|omega) only [↓aj,reduceIte,reduceCtorEq,Nat.reduceEqDiff])|(with_reducible exact iu _)|(with_reducible exact d8 _)|(exact d9 rfl rfl rfl)|(exact eG 0 (by simp) rfl rfl)|(refine fk hN rfl (ee hN (by decide)) ?_)|(with_reducible refine fj ?_)|(with_reducible rfl)|(with_reducible refine bF ?_)|(with_reducible refine bH ?_)|(with_reducible refine bI ?_)|(with_reducible refine bG ?_)|(with_reducible refine bE ?_)|(refine ah ?_;omega))))
   rw [lF hk ho (fun _=>by assumption),if_pos ⟨by omega,by assumption⟩]
 · have hne : ¬ gi xs k = x:=beq_eq_false_iff_ne.1 (by assumption)
   (refine fl hN [] (by decide) (.inr rfl) (by first|exact cP rfl rfl|exact cI hN rfl rfl rfl rfl|exact cA hN rfl rfl rfl rfl rfl|(simp (disch:=first|decide|omega|(simp only [List.length_cons,List.length_nil];omega)) only [cj,cn,cu,cy,go_sem,beq_self_eq_true,↓aj,↓ak hN,am hN,reduceIte,reduceCtorEq,Nat.reduceAdd,Nat.reduceLT,Nat.reduceLeDiff,Nat.reduceEqDiff,Nat.reduceSub];rfl)|rfl) ?_ fun νs hνs=>?_;(repeat' (first|exact Gone.nil|(refine Gone.cons rfl rfl ?_ ?_)|(with_reducible refine ec ?_)|(with_reducible refine eb ?_)|(with_reducible refine SVs.cons ?_ ?_)|(with_reducible exact SVs.nil)|(simp only [List.drop,List.take])|(simp (disch:=first|decide|omega) only [↓aj,reduceIte,reduceCtorEq,Nat.reduceEqDiff])|(with_reducible exact iu _)|(with_reducible exact d8 _)|(exact d9 rfl rfl rfl)|(exact eG 0 (by simp) rfl rfl)|(refine fk hN rfl (ee hN (by decide)) ?_)|(with_reducible refine fj ?_)|(with_reducible rfl)|(with_reducible refine bF ?_)|(with_reducible refine bH ?_)|(with_reducible refine bI ?_)|(with_reducible refine bG ?_)|(with_reducible refine bE ?_)|(refine ah ?_;omega))))
   rw [lF hk ho (fun _=>by assumption),if_neg fun h=>hne h.2];simp
 · (refine fl hN [] (by decide) (.inr rfl) (by first|exact cP rfl rfl|exact cI hN rfl rfl rfl rfl|exact cA hN rfl rfl rfl rfl rfl|(simp (disch:=first|decide|omega|(simp only [List.length_cons,List.length_nil];omega)) only [cj,cn,cu,cy,go_sem,beq_self_eq_true,↓aj,↓ak hN,am hN,reduceIte,reduceCtorEq,Nat.reduceAdd,Nat.reduceLT,Nat.reduceLeDiff,Nat.reduceEqDiff,Nat.reduceSub];rfl)|rfl) ?_ fun νs hνs=>?_;(repeat' (first|exact Gone.nil|(refine Gone.cons rfl rfl ?_ ?_)|(with_reducible refine ec ?_)|(with_reducible refine eb ?_)|(with_reducible refine SVs.cons ?_ ?_)|(with_reducible exact SVs.nil)|(simp only [List.drop,List.take])|(simp (disch:=first|decide|omega) only [↓aj,reduceIte,reduceCtorEq,Nat.reduceEqDiff])|(with_reducible exact iu _)|(with_reducible exact d8 _)|(exact d9 rfl rfl rfl)|(exact eG 0 (by simp) rfl rfl)|(refine fk hN rfl (ee hN (by decide)) ?_)|(with_reducible refine fj ?_)|(with_reducible rfl)|(with_reducible refine bF ?_)|(with_reducible refine bH ?_)|(with_reducible refine bI ?_)|(with_reducible refine bG ?_)|(with_reducible refine bE ?_)|(refine ah ?_;omega))))
   rw [lF hk ho (fun h=>absurd h (by omega)),if_neg fun h=>by omega];simp
def fI (a b : List Int) : List Int:=b.foldl e9 a
theorem pA {z : Int} : ∀ {b a : List Int},z ∈ fI a b ↔ z ∈ a ∨ z ∈ b:=by
 intro b
 induction b with
 | nil => intro a; simp [fI]
 | cons y ys ih =>
   intro a
   show z ∈ fI (e9 a y) ys ↔ _
   rw [ih,mJ,List.mem_cons]
   exact ⟨fun h=>h.elim (fun h=>h.elim (fun h=>.inr (.inl h)) .inl) fun h=>.inr (.inr h),fun h=>h.elim (fun h=>.inl (.inr h)) fun h=>h.elim (fun h=>.inl (.inl h)) .inr⟩
theorem jb {m : Int} : ∀ {b a : List Int},cz a m → cz b m → cz (fI a b) m:=by
 intro b
 induction b with
 | nil => intro a h _; exact h
 | cons y ys ih =>
   intro a h k
   obtain ⟨h1,h2,_⟩:=ew.1 k
   exact ih (nR h1.1 h1.2 h) h2
theorem iR : ∀ (b a : List Int),(fI a b).length ≤ a.length + b.length:=by
 intro b
 induction b with
 | nil => intro a; exact Nat.le_refl _
 | cons y ys ih =>
   intro a
   have h1:=ih (e9 a y)
   have h2:=rs y a
   show (fI (e9 a y) ys).length ≤ _
   simp;omega
theorem nS {a b : List Int} {k : Nat} (h : k < b.length) : (b.take (k + 1)).foldl e9 a = e9 ((b.take k).foldl e9 a) (gi b k):=by
 rw [List.take_succ_eq_append_getElem h,List.foldl_append,dB h];rfl
theorem ru (a b : List Int) : ax Try.prog 149 [.c (.I a),.c (.I b)] [] (fun _=>.c (.bool (tf (cz a 256 ∧ cz b 256)))):=by
 (refine bV aP Try.func149 rfl rfl (by kernel_rfl) fun hp0 ν hX hN=>?_;simp only [cK,Nat.reduceAdd])
 (repeat' (first|(with_reducible first|(refine hK _ _ ?_;clear hK K)|(refine aa _ ?_;clear aa K)|refine bj ?_|refine cc ?_|refine bc ?_|refine aq ?_|refine ap ?_|refine ce ?_|refine aJ ?_|refine bd ?_|refine cf ?_|refine be ?_|refine bf rfl ?_|refine bm ?_|refine bg ?_|refine cg ?_|refine bh ?_|refine aI ?_|refine n_k ?_|refine bi ?_|(refine ae ?_;clear ae X af Y)|(refine af ?_;clear ae X af Y))|(with_reducible refine br ?_;first|refine bo rfl ?_|refine bp rfl ?_)|(with_reducible refine bz ?_;first|refine au rfl rfl rfl rfl ?_|refine aL rfl rfl rfl ?_|refine bv rfl rfl rfl rfl ?_)|((first|(with_reducible first|refine bt rfl rfl fun K hK=>?_|refine bu rfl rfl fun K aa=>?_|refine aK fun X Y ae af=>?_|refine aM ?_)|(with_reducible refine bz ?_;refine bJ rfl rfl fun X Y ae af=>?_));simp (disch:=first|decide|omega|(simp only [List.length_cons,List.length_nil];omega)) only [go_sem,beq_self_eq_true,↓aj,↓ak hN,am hN,reduceIte,reduceCtorEq,Nat.reduceAdd,Nat.reduceLT,Nat.reduceLeDiff,Nat.reduceEqDiff,Nat.reduceSub])|(with_reducible refine And.intro (fun h=>?_) (fun h=>?_) <;> try (exfalso;omega))|(with_reducible refine bn aP hN rfl ?_ ?_;kernel_rfl)|(refine bK (sI ?_ ?_) ?_ rfl (fun _=>rfl) ?_)|(with_reducible first|exact aG|refine aF ?_ ?_|exact cC _|refine bC ?_|exact ba _|exact b9 _ _|refine b8 ?_|exact aZ _)|exact bD hN rfl rfl|(refine b7 hN rfl ?_;first|exact aN _|exact aO _)|exact a8 rfl rfl rfl|(simp only [bB,List.map_nil])|(with_reducible refine cm ?_)|(with_reducible refine And.intro ?_ ?_)|(refine ah ?_;omega)|(exact bw hN (by decide))))
 all_goals (refine cO (.inr rfl) (by first|rfl|(simp (disch:=first|decide|omega|(simp only [List.length_cons,List.length_nil];omega)) only [cj,cn,cu,cy,go_sem,beq_self_eq_true,↓aj,↓ak hN,am hN,reduceIte,reduceCtorEq,Nat.reduceAdd,Nat.reduceLT,Nat.reduceLeDiff,Nat.reduceEqDiff,Nat.reduceSub];rfl)) ?_)
 all_goals refine bE ?_
 · exact eE ⟨fun e=>⟨And.right (by assumption),e.2⟩,fun e=>⟨by omega,e.2⟩⟩
 · exact (aH fun e=>(by assumption : ¬ ((0 ≤ (256 : Int) ∧ (256 : Int) ≤ 256) ∧ cz a 256)) ⟨by omega,e.1⟩).symm
theorem pB (a b : List Int) (ha : cz a 256) (hb : cz b 256) : ax Try.prog 71 [.c (.I a),.c (.I b)] [] (fun _=>.c (.I (fI a b))):=by
 have hla:=dK ha (by omega)
 have hlb:=dK hb (by omega)
 have hok:=ru a b
 rw [bW ⟨ha,hb⟩] at hok
 (refine bV aP Try.func71 rfl rfl (by kernel_rfl) fun hp0 ν hX hN=>?_;simp only [cK,Nat.reduceAdd])
 (repeat' (first|(with_reducible first|(refine hK _ _ ?_;clear hK K)|(refine aa _ ?_;clear aa K)|refine bj ?_|refine cc ?_|refine bc ?_|refine aq ?_|refine ap ?_|refine ce ?_|refine aJ ?_|refine bd ?_|refine cf ?_|refine be ?_|refine bf rfl ?_|refine bm ?_|refine bg ?_|refine cg ?_|refine bh ?_|refine aI ?_|refine n_k ?_|refine bi ?_|(refine ae ?_;clear ae X af Y)|(refine af ?_;clear ae X af Y))|(with_reducible refine br ?_;first|refine bo rfl ?_|refine bp rfl ?_)|(with_reducible refine bz ?_;first|refine au rfl rfl rfl rfl ?_|refine aL rfl rfl rfl ?_|refine bv rfl rfl rfl rfl ?_)|((first|(with_reducible first|refine bt rfl rfl fun K hK=>?_|refine bu rfl rfl fun K aa=>?_|refine aK fun X Y ae af=>?_|refine aM ?_));simp (disch:=first|decide|omega|(simp only [List.length_cons,List.length_nil];omega)) only [go_sem,beq_self_eq_true,↓aj,↓ak hN,am hN,reduceIte,reduceCtorEq,Nat.reduceAdd,Nat.reduceLT,Nat.reduceLeDiff,Nat.reduceEqDiff,Nat.reduceSub])|(with_reducible refine And.intro (fun h=>?_) (fun h=>?_) <;> try (exfalso;omega))|(with_reducible refine bn aP hN rfl ?_ ?_;kernel_rfl)|(refine bK hok ?_ rfl (fun _=>rfl) ?_)|(refine bK (iA a (by omega)) ?_ rfl (fun _=>rfl) ?_;focus ((repeat' (first|(with_reducible first|exact aG|refine aF ?_ ?_|exact cC _|refine bC ?_|exact ba _|exact b9 _ _|refine b8 ?_|exact aZ _)|exact bD hN rfl rfl|(refine b7 hN rfl ?_;first|exact aN _|exact aO _)|exact a8 rfl rfl rfl));done))|(with_reducible first|exact aG|refine aF ?_ ?_|exact cC _|refine bC ?_|exact ba _|exact b9 _ _|refine b8 ?_|exact aZ _)|exact bD hN rfl rfl|(refine b7 hN rfl ?_;first|exact aN _|exact aO _)|exact a8 rfl rfl rfl|(simp only [bB,List.map_nil])|(with_reducible refine cm ?_)|(with_reducible refine And.intro ?_ ?_)|(refine ah ?_;omega)|(exact bw hN (by decide))))
 (refine co (fun (k : Nat)=>(tmL [(6,.c (.int .i64 k)),(5,.c (.I ((b.take k).foldl e9 a))),(1,.c (.I b))],hpL hp0 ν [])) (fun (k : Nat)=>k ≤ b.length) (fun (k : Nat)=>b.length - k) ⟨0,?_,bX hX hN [] ?_ ?_⟩ ?_;(repeat' (first|(with_reducible first|exact bP _|exact bQ|exact bR|refine bS ?_ ?_|refine bT ?_ ?_|exact ay _|exact bN _|exact ao _|rfl|exact aS _ _|refine aA ?_|exact bO _|refine aW ?_)|refine bU rfl ?_ ?_|exact aT hN _ rfl rfl rfl|exact aU hN _ rfl rfl rfl|exact aB hN _ rfl rfl rfl (Or.inr rfl)|(refine aV hN _ rfl rfl (by first|exact Or.inr rfl|exact Or.inl rfl) ?_;first|exact aN _|exact aO _)|refine aC hN rfl ?_|refine aD hN rfl rfl ?_|exact az hN _ rfl rfl|exact aE hN rfl rfl rfl rfl|(with_reducible first|refine aR ?_|refine bF ?_|refine bH ?_|refine bI ?_|refine bG ?_|refine bE ?_)));(try (any_goals (first|(with_reducible rfl)|(refine ah ?_;omega)))))
 intro k hk
 have hlf:=iR (b.take k) a
 have hlt : (b.take k).length ≤ k:=by simp;omega
 have e : fI a (b.take k) = (b.take k).foldl e9 a:=rfl
 rw [e] at hlf
 (repeat' (first|(with_reducible first|(refine hK _ _ ?_;clear hK K)|(refine aa _ ?_;clear aa K)|refine bj ?_|refine cc ?_|refine bc ?_|refine aq ?_|refine ap ?_|refine ce ?_|refine aJ ?_|refine bd ?_|refine cf ?_|refine be ?_|refine bf rfl ?_|refine bm ?_|refine bg ?_|refine cg ?_|refine bh ?_|refine aI ?_|refine n_k ?_|refine bi ?_|(refine ae ?_;clear ae X af Y)|(refine af ?_;clear ae X af Y))|(with_reducible refine br ?_;first|refine bo rfl ?_|refine bp rfl ?_)|(with_reducible refine bz ?_;first|refine au rfl rfl rfl rfl ?_|refine aL rfl rfl rfl ?_|refine bv rfl rfl rfl rfl ?_)|((first|(with_reducible first|refine bt rfl rfl fun K hK=>?_|refine bu rfl rfl fun K aa=>?_|refine aK fun X Y ae af=>?_|refine aM ?_));simp (disch:=first|decide|omega|(simp only [List.length_cons,List.length_nil];omega)) only [go_sem,beq_self_eq_true,↓aj,↓ak hN,am hN,reduceIte,reduceCtorEq,Nat.reduceAdd,Nat.reduceLT,Nat.reduceLeDiff,Nat.reduceEqDiff,Nat.reduceSub])|(with_reducible refine And.intro (fun h=>?_) (fun h=>?_) <;> try (exfalso;omega))|(with_reducible refine bn aP hN rfl ?_ ?_;kernel_rfl)|(refine fi (rt ((b.take k).foldl e9 a) (gi b k) (by omega)) ?_ rfl rfl ?_;focus ((repeat' (first|(with_reducible first|exact aG|refine aF ?_ ?_|exact cC _|refine bC ?_|exact ba _|exact b9 _ _|refine b8 ?_|exact aZ _)|exact bD hN rfl rfl|(refine b7 hN rfl ?_;first|exact aN _|exact aO _)|exact a8 rfl rfl rfl));done))|(with_reducible first|exact aG|refine aF ?_ ?_|exact cC _|refine bC ?_|exact ba _|exact b9 _ _|refine b8 ?_|exact aZ _)|exact bD hN rfl rfl|(refine b7 hN rfl ?_;first|exact aN _|exact aO _)|exact a8 rfl rfl rfl|(simp only [bB,List.map_nil])|(with_reducible refine cm ?_)|(with_reducible refine And.intro ?_ ?_)|(refine ah ?_;omega)|(exact bw hN (by decide))))
 · (refine ⟨k + 1,⟨?_,?_⟩,bX hX hN [] ?_ ?_⟩;(try any_goals dsimp only);(repeat' (first|(with_reducible first|exact bP _|exact bQ|exact bR|refine bS ?_ ?_|refine bT ?_ ?_|exact ay _|exact bN _|exact ao _|rfl|exact aS _ _|refine aA ?_|exact bO _|refine aW ?_)|refine bU rfl ?_ ?_|exact aT hN _ rfl rfl rfl|exact aU hN _ rfl rfl rfl|exact aB hN _ rfl rfl rfl (Or.inr rfl)|(refine aV hN _ rfl rfl (by first|exact Or.inr rfl|exact Or.inl rfl) ?_;first|exact aN _|exact aO _)|refine aC hN rfl ?_|refine aD hN rfl rfl ?_|exact az hN _ rfl rfl|exact aE hN rfl rfl rfl rfl|(with_reducible first|refine aR ?_|refine bF ?_|refine bH ?_|refine bI ?_|refine bG ?_|refine bE ?_)));(try (any_goals (first|(with_reducible rfl)|(refine ah ?_;omega)))))
   exact (nS (a:=a) (b:=b) (k:=k) (by omega)).symm
 · (refine fl hN [] (by decide) (.inr rfl) (by first|exact cP rfl rfl|exact cI hN rfl rfl rfl rfl|exact cA hN rfl rfl rfl rfl rfl|(simp (disch:=first|decide|omega|(simp only [List.length_cons,List.length_nil];omega)) only [cj,cn,cu,cy,go_sem,beq_self_eq_true,↓aj,↓ak hN,am hN,reduceIte,reduceCtorEq,Nat.reduceAdd,Nat.reduceLT,Nat.reduceLeDiff,Nat.reduceEqDiff,Nat.reduceSub];rfl)|rfl) ?_ fun νs hνs=>?_;(repeat' (first|exact Gone.nil|(refine Gone.cons rfl rfl ?_ ?_)|(with_reducible refine ec ?_)|(with_reducible refine eb ?_)|(with_reducible refine SVs.cons ?_ ?_)|(with_reducible exact SVs.nil)|(simp only [List.drop,List.take])|(simp (disch:=first|decide|omega) only [↓aj,reduceIte,reduceCtorEq,Nat.reduceEqDiff])|(with_reducible exact iu _)|(with_reducible exact d8 _)|(exact d9 rfl rfl rfl)|(exact eG 0 (by simp) rfl rfl)|(refine fk hN rfl (ee hN (by decide)) ?_)|(with_reducible refine fj ?_)|(with_reducible rfl)|(with_reducible refine bF ?_)|(with_reducible refine bH ?_)|(with_reducible refine bI ?_)|(with_reducible refine bG ?_)|(with_reducible refine bE ?_)|(refine ah ?_;omega))))
   rw [show k = b.length by omega,List.take_length];rfl
end Go.Proofs.Ytfaefmabjjndeaa
namespace Go.Proofs.Ytfaefmabjjndeaa
set_option linter.unusedVariables false
set_option linter.unusedSimpArgs false
open Go.RowKit
attribute [local irreducible] ax cJ Aw Le
def eo (n : Int) : Nat → Dc → List Int → List Int × Dc
 | 0, d, r => (r, d)
 | k + 1, d, r => eo n k d.nxt (fI r [d.val n])
def fa (n pm : Int) : Nat → Dc → List Int → List (List Int) → List Int → Pa × Dc
 | 0, d, o, x, p => (⟨⟨o, x⟩, p⟩, d)
 | k + 1, d, o, x, p => fa n pm k (eo n (1 + d.val 3).toNat d.nxt []).2.nxt.nxt (o ++ [(eo n (1 + d.val 3).toNat d.nxt []).2.val 2]) (x ++ [(eo n (1 + d.val 3).toNat d.nxt []).1]) (p ++ [(eo n (1 + d.val 3).toNat d.nxt []).2.nxt.val pm])
def gI (d : Dc) (most pm : Int) : Pa × Dc:=fa (1 + d.val most) pm (1 + d.val most).toNat d.nxt [] [] []
theorem iS (n : Int) : cz [] n:=fun k hk=>absurd hk (Nat.not_lt_zero _)
theorem iT {x n : Int} (h0 : 0 ≤ x) (h1 : x < n) : cz [x] n:=ew.2 ⟨⟨h0,h1⟩,iS n,fun z hz=>by simp at hz⟩
theorem rv {n : Int} (hn : 1 ≤ n) : ∀ (k : Nat) (d : Dc) (r : List Int),cz r n → cz (eo n k d r).1 n ∧ (eo n k d r).1.length ≤ r.length + k ∧ (0 < k ∨ r ≠ [] → 1 ≤ (eo n k d r).1.length):=by
 intro k
 induction k with
 | zero => intro d r h; exact ⟨h, Nat.le_refl _, fun h => by rcases h with h | h; (· omega); exact List.length_pos_iff.2 h⟩
 | succ k ih =>
   intro d r h
   have hb:=d.bnd hn
   obtain ⟨h1,h2,h3⟩:=ih d.nxt (fI r [d.val n]) (jb h (iT hb.1 hb.2))
   have h4:=iR [d.val n] r
   refine ⟨h1,by show (eo n k d.nxt (fI r [d.val n])).1.length ≤ _;simp at h4;omega,fun _=>h3 (.inr fun e=>?_)⟩
   have : d.val n ∈ fI r [d.val n]:=pA.2 (.inr (by simp))
   rw [e] at this;cases this
structure GPart (n pm : Int) (o : List Int) (x : List (List Int)) (p : List Int) : Prop where
 l1 : x.length = o.length
 l2 : p.length = o.length
 at' : ∀ v,v < o.length → (0 ≤ gi o v ∧ gi o v ≤ 1) ∧ (1 ≤ (gr x v).length ∧ (gr x v).length ≤ 3 ∧ cz (gr x v) n) ∧ 0 ≤ gi p v ∧ gi p v < pm
theorem s4 {xs : List (List Int)} {y : List Int} {v : Nat} (h : v ≤ xs.length) : gr (xs ++ [y]) v = if v < xs.length then gr xs v else y:=by
 unfold gr
 rw [c6]
 split
 · rfl
 · have : v - xs.length = 0:=by omega
   rw [this];rfl
theorem GPart.snoc {n pm : Int} {o : List Int} {x : List (List Int)} {p : List Int} (h : GPart n pm o x p) {a b : Int} {r : List Int} (ha : 0 ≤ a ∧ a ≤ 1) (hr : 1 ≤ r.length ∧ r.length ≤ 3 ∧ cz r n) (hb : 0 ≤ b ∧ b < pm) : GPart n pm (o ++ [a]) (x ++ [r]) (p ++ [b]):=by
 have h1:=h.l1
 have h2:=h.l2
 refine ⟨by simp [h1],by simp [h2],fun v hv=>?_⟩
 have hv' : v < o.length + 1:=by simpa using hv
 rw [eN,eN,s4 (by omega),h1,h2]
 by_cases e : v < o.length
 · rw [if_pos e,if_pos e,if_pos e];exact h.at' v e
 · have : v = o.length:=by omega
   rw [if_neg e,if_neg e,if_neg e,if_pos this,if_pos this]
   exact ⟨ha,hr,hb⟩
theorem pC {n pm : Int} (hn : 1 ≤ n) (hp : 1 ≤ pm) : ∀ (k : Nat) (d : Dc) (o : List Int) (x : List (List Int)) (p : List Int),GPart n pm o x p →
  GPart n pm (fa n pm k d o x p).1.ar.own (fa n pm k d o x p).1.ar.nxt (fa n pm k d o x p).1.prio ∧ (fa n pm k d o x p).1.ar.own.length = o.length + k:=by
 intro k
 induction k with
 | zero => intro d o x p h; exact ⟨h, rfl⟩
 | succ k ih =>
   intro d o x p h
   have hb:=d.bnd (n:=3) (by omega)
   obtain ⟨h1,h2,h3⟩:=rv hn (1 + d.val 3).toNat d.nxt [] (iS n)
   have h4:=(eo n (1 + d.val 3).toNat d.nxt []).2.bnd (n:=2) (by omega)
   have h5:=(eo n (1 + d.val 3).toNat d.nxt []).2.nxt.bnd (n:=pm) hp
   have hl : ([] : List Int).length = 0:=rfl
   have:=ih (eo n (1 + d.val 3).toNat d.nxt []).2.nxt.nxt _ _ _ (h.snoc (a:=(eo n (1 + d.val 3).toNat d.nxt []).2.val 2) (b:=(eo n (1 + d.val 3).toNat d.nxt []).2.nxt.val pm) (r:=(eo n (1 + d.val 3).toNat d.nxt []).1) ⟨h4.1,by omega⟩ ⟨h3 (.inl (by omega)),by omega,h1⟩ h5)
   refine ⟨this.1,this.2.trans ?_⟩
   simp;omega
theorem rx {d : Dc} {most pm : Int} (hm : 1 ≤ most ∧ most ≤ 16) (hp : 1 ≤ pm ∧ pm ≤ 41) : PaOk (gI d most pm).1 ∧ ((gI d most pm).1.prio.length : Int) ≤ most ∧ ∀ v,v < (gI d most pm).1.prio.length → gi (gI d most pm).1.prio v < pm:=by
 have hb:=d.bnd hm.1
 obtain ⟨h1,h2⟩:=pC (n:=1 + d.val most) (pm:=pm) (by omega) (by omega) (1 + d.val most).toNat d.nxt [] [] [] ⟨rfl,rfl,fun v hv=>absurd hv (Nat.not_lt_zero _)⟩
 have hl : ([] : List Int).length = 0:=rfl
 have e : gI d most pm = fa (1 + d.val most) pm (1 + d.val most).toNat d.nxt [] [] []:=rfl
 rw [← e] at h1 h2
 have h3:=h1.l1
 have h4:=h1.l2
 refine ⟨⟨⟨by omega,by omega,h3,fun v hv=>?_⟩,h4,fun v hv=>?_⟩,by omega,fun v hv=>?_⟩
 · obtain ⟨a,⟨b1,b2,b3⟩,_⟩:=h1.at' v hv
   refine ⟨a.1,a.2,b1,by omega,fun j hj=>?_⟩
   have:=b3 j hj
   exact ⟨this.1,by omega,this.2.2⟩
 · obtain ⟨_,_,c1,c2⟩:=h1.at' v (by omega)
   exact ⟨c1,by omega⟩
 · exact (h1.at' v (by omega)).2.2.2
def ry (bs : List Int) (seed : Int) : Nat → Int
 | 0 => IntKind.u64.wrap (IntKind.u64.wrap (seed * 7919) + IntKind.u64.wrap bs.length)
 | k + 1 => IntKind.u64.wrap (IntKind.u64.wrap (IntKind.u64.wrap (ry bs seed k * 1099511628211) + IntKind.u64.wrap (gi bs k)) + 3)
def tu (bs : List Int) (hl : bs.length ≤ 4096) (hb : ∀ j,j < bs.length → 0 ≤ gi bs j ∧ gi bs j ≤ 255) (seed : Int) : Dc:=⟨bs,0,ry bs seed bs.length,hl,hb,by omega⟩
theorem uA (bs : List Int) (hl : bs.length ≤ 4096) (hb : ∀ j,j < bs.length → 0 ≤ gi bs j ∧ gi bs j ≤ 255) (seed : Int) : dG Try.prog 16 (fun _=>[.c (.Y bs),.c (.int .u64 seed)]) [] [] [diE (tu bs hl hb seed)] (fun ns=>.ad (ns.getD 0 0) 0):=by
 (refine f6 aP Try.func16 rfl rfl (fun _=>by kernel_rfl) rfl rfl rfl rfl (by first|exact jp _|exact iv (j:=0) (by simp) (by simp [Ent.kind])|exact iw (j:=0) (by simp) (by simp [Ent.kind])|exact fZ rfl|exact gV|exact jq _) fun hp0 ν hX hN=>?_;simp only [cK,Nat.reduceAdd])
 (repeat' (first|(with_reducible first|(refine hK _ _ ?_;clear hK K)|(refine aa _ ?_;clear aa K)|(refine ab _ _ _ ?_;clear ab K)|(refine ac _ _ ?_;clear ac K)|refine bj ?_|refine cc ?_|refine bc ?_|refine aq ?_|refine ap ?_|refine ce ?_|refine aJ ?_|refine bd ?_|refine cf ?_|refine be ?_|refine bf rfl ?_|refine bm ?_|refine bg ?_|refine cg ?_|refine bh ?_|refine aI ?_|refine n_k ?_|refine bi ?_|(refine ae ?_;clear ae X af Y)|(refine af ?_;clear ae X af Y))|(with_reducible refine br ?_;first|refine bo rfl ?_|refine bp rfl ?_)|(with_reducible refine bz ?_;first|refine au rfl rfl rfl rfl ?_|refine aL rfl rfl rfl ?_|refine bv rfl rfl rfl rfl ?_)|(with_reducible refine cD ?_;first|refine bY rfl rfl rfl rfl ?_|refine ck rfl rfl rfl ?_|refine cG rfl rfl rfl rfl ?_|refine cH hN (by apply Exists.intro;apply And.intro;(repeat' (first|apply FtI.nil|apply FI.nil|apply FI.cons|apply FtI.cons));kernel_rfl) ?_)|((first|(with_reducible first|refine bt rfl rfl fun K hK=>?_|refine cE rfl rfl fun K ab=>?_|refine bu rfl rfl fun K aa=>?_|refine cF rfl rfl fun K ac=>?_|refine aK fun X Y ae af=>?_|refine aM ?_));simp (disch:=first|decide|omega|(simp only [List.length_cons,List.length_nil];omega)) only [go_sem,beq_self_eq_true,↓aj,↓ak hN,am hN,reduceIte,reduceCtorEq,Nat.reduceAdd,Nat.reduceLT,Nat.reduceLeDiff,Nat.reduceEqDiff,Nat.reduceSub])|(with_reducible refine And.intro (fun h=>?_) (fun h=>?_) <;> try (exfalso;omega))|(with_reducible refine bn aP hN rfl ?_ ?_;kernel_rfl)|(with_reducible refine bZ aP hN rfl ?_ ?_ ?_ ?_;(kernel_rfl);(kernel_rfl);(kernel_rfl))|(with_reducible refine And.intro ?_ ?_)|(refine ah ?_;omega)|(exact bw hN (by decide))))
 (refine co (fun (k : Nat)=>(tmL [(6,.c (.int .i64 k)),(5,.ad (ν 0) 0),(0,.c (.Y bs))],hpL hp0 ν [.box [.c (.Y bs),.c (.int .i64 0),.c (.int .u64 (ry bs seed k))]])) (fun (k : Nat)=>k ≤ bs.length) (fun (k : Nat)=>bs.length - k) ⟨0,?_,bX hX hN [] ?_ ?_⟩ ?_;(repeat' (first|(with_reducible first|exact bP _|exact bQ|exact bR|refine bS ?_ ?_|refine bT ?_ ?_|exact ay _|exact bN _|exact ao _|rfl|exact aS _ _|refine aA ?_|exact bO _|refine aW ?_)|refine bU rfl ?_ ?_|exact aT hN _ rfl rfl rfl|exact aU hN _ rfl rfl rfl|exact aB hN _ rfl rfl rfl (Or.inr rfl)|(refine aV hN _ rfl rfl (by first|exact Or.inr rfl|exact Or.inl rfl) ?_;first|exact aN _|exact aO _)|refine aC hN rfl ?_|refine aD hN rfl rfl ?_|exact az hN _ rfl rfl|exact aE hN rfl rfl rfl rfl|(with_reducible first|refine aR ?_|refine bF ?_|refine bH ?_|refine bI ?_|refine bG ?_|refine bE ?_)));(try (any_goals (first|(with_reducible rfl)|(refine ah ?_;omega)))))
 · rfl
 intro k hk
 (repeat' (first|(with_reducible first|(refine hK _ _ ?_;clear hK K)|(refine aa _ ?_;clear aa K)|(refine ab _ _ _ ?_;clear ab K)|(refine ac _ _ ?_;clear ac K)|refine bj ?_|refine cc ?_|refine bc ?_|refine aq ?_|refine ap ?_|refine ce ?_|refine aJ ?_|refine bd ?_|refine cf ?_|refine be ?_|refine bf rfl ?_|refine bm ?_|refine bg ?_|refine cg ?_|refine bh ?_|refine aI ?_|refine n_k ?_|refine bi ?_|(refine ae ?_;clear ae X af Y)|(refine af ?_;clear ae X af Y))|(with_reducible refine br ?_;first|refine bo rfl ?_|refine bp rfl ?_)|(with_reducible refine bz ?_;first|refine au rfl rfl rfl rfl ?_|refine aL rfl rfl rfl ?_|refine bv rfl rfl rfl rfl ?_)|(with_reducible refine cD ?_;first|refine bY rfl rfl rfl rfl ?_|refine ck rfl rfl rfl ?_|refine cG rfl rfl rfl rfl ?_|refine cH hN (by apply Exists.intro;apply And.intro;(repeat' (first|apply FtI.nil|apply FI.nil|apply FI.cons|apply FtI.cons));kernel_rfl) ?_)|((first|(with_reducible first|refine bt rfl rfl fun K hK=>?_|refine cE rfl rfl fun K ab=>?_|refine bu rfl rfl fun K aa=>?_|refine cF rfl rfl fun K ac=>?_|refine aK fun X Y ae af=>?_|refine aM ?_));simp (disch:=first|decide|omega|(simp only [List.length_cons,List.length_nil];omega)) only [go_sem,beq_self_eq_true,↓aj,↓ak hN,am hN,reduceIte,reduceCtorEq,Nat.reduceAdd,Nat.reduceLT,Nat.reduceLeDiff,Nat.reduceEqDiff,Nat.reduceSub])|(with_reducible refine And.intro (fun h=>?_) (fun h=>?_) <;> try (exfalso;omega))|(with_reducible refine bn aP hN rfl ?_ ?_;kernel_rfl)|(with_reducible refine bZ aP hN rfl ?_ ?_ ?_ ?_;(kernel_rfl);(kernel_rfl);(kernel_rfl))|(with_reducible refine And.intro ?_ ?_)|(refine ah ?_;omega)|(exact bw hN (by decide))))
 · (refine ⟨k + 1,⟨?_,?_⟩,bX hX hN [] ?_ ?_⟩;(try any_goals dsimp only);(repeat' (first|(with_reducible first|exact bP _|exact bQ|exact bR|refine bS ?_ ?_|refine bT ?_ ?_|exact ay _|exact bN _|exact ao _|rfl|exact aS _ _|refine aA ?_|exact bO _|refine aW ?_)|refine bU rfl ?_ ?_|exact aT hN _ rfl rfl rfl|exact aU hN _ rfl rfl rfl|exact aB hN _ rfl rfl rfl (Or.inr rfl)|(refine aV hN _ rfl rfl (by first|exact Or.inr rfl|exact Or.inl rfl) ?_;first|exact aN _|exact aO _)|refine aC hN rfl ?_|refine aD hN rfl rfl ?_|exact az hN _ rfl rfl|exact aE hN rfl rfl rfl rfl|(with_reducible first|refine aR ?_|refine bF ?_|refine bH ?_|refine bI ?_|refine bG ?_|refine bE ?_)));(try (any_goals (first|(with_reducible rfl)|(refine ah ?_;omega)))))
   rfl
 · (refine ⟨.inr rfl,_,(by first|exact cP rfl rfl|exact cI hN rfl rfl rfl rfl|exact cA hN rfl rfl rfl rfl rfl|(simp (disch:=first|decide|omega|(simp only [List.length_cons,List.length_nil];omega)) only [cj,cn,cu,cy,go_sem,beq_self_eq_true,↓aj,↓ak hN,am hN,reduceIte,reduceCtorEq,Nat.reduceAdd,Nat.reduceLT,Nat.reduceLeDiff,Nat.reduceEqDiff,Nat.reduceSub];rfl)|rfl),[],_,rfl,?_,rfl,?_⟩;(all_goals try simp only [List.drop,List.take,List.cons_append,List.nil_append,nmL,List.length_cons,List.length_nil,Nat.reduceAdd,List.getD_cons_zero]);(repeat' (first|(with_reducible first|exact bP _|exact bQ|exact bR|refine bS ?_ ?_|refine bT ?_ ?_|exact ay _|exact bN _|exact ao _|rfl|exact aS _ _|refine aA ?_|exact bO _|refine aW ?_)|refine bU rfl ?_ ?_|exact aT hN _ rfl rfl rfl|exact aU hN _ rfl rfl rfl|exact aB hN _ rfl rfl rfl (Or.inr rfl)|(refine aV hN _ rfl rfl (by first|exact Or.inr rfl|exact Or.inl rfl) ?_;first|exact aN _|exact aO _)|refine aC hN rfl ?_|refine aD hN rfl rfl ?_|exact az hN _ rfl rfl|exact aE hN rfl rfl rfl rfl|(with_reducible first|refine aR ?_|refine bF ?_|refine bH ?_|refine bI ?_|refine bG ?_|refine bE ?_))))
   all_goals first|rfl|(rw [show k = bs.length by omega];rfl)
end Go.Proofs.Ytfaefmabjjndeaa
