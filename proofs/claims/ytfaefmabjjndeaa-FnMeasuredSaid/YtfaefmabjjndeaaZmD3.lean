/-
  The games, the plans that the dice draw.
-/
import Derived.Test.YtfaefmabjjndeaaZmFc
import Derived.Test.YtfaefmabjjndeaaZmG3
import Derived.Test.YtfaefmabjjndeaaZmKf
namespace Go.Proofs.Ytfaefmabjjndeaa
set_option linter.unusedVariables false
set_option linter.unusedSimpArgs false
open Go.RowKit
attribute [local irreducible] aG cP Aw Le
structure Dc where
 bs : List Int
 i : Int
 h : Int
 len : bs.length ≤ 4096
 byt : ∀ j,j < bs.length → 0 ≤ gi bs j ∧ gi bs j ≤ 255
 ok : 0 ≤ i ∧ i ≤ bs.length
def dH (h : Int) : Int:=IntKind.u64.wrap (IntKind.u64.wrap (h * 6364136223846793005) + 1442695040888963407)
def dX (h : Int) : Int:=IntKind.i64.wrap (rh .u64 (uM .u64 (dH h) 33) 16777215)
def Dc.nxt (d : Dc) : Dc:=⟨d.bs,if d.i < d.bs.length then d.i + 1 else d.i,dH d.h,d.len,d.byt,by have:=d.ok;split <;> omega⟩
def Dc.val (d : Dc) (n : Int) : Int:=(if d.i < d.bs.length then IntKind.i64.wrap (dX d.h + IntKind.i64.wrap (gi d.bs d.i.toNat)) else dX d.h).tmod n
abbrev diE (d : Dc) : Ent:=.box [.c (.Y d.bs),.c (.int .i64 d.i),.c (.int .u64 d.h)]
theorem xz (h : Int) : 0 ≤ dX h ∧ dX h ≤ 16777215:=by
 have h1 : ∀ a : Int,0 ≤ rh .u64 a 16777215 ∧ rh .u64 a 16777215 ≤ 16777215:=fun a=>by
  unfold rh
  have h2 : (BitVec.ofInt IntKind.u64.bits a &&& BitVec.ofInt IntKind.u64.bits 16777215).toNat ≤ 16777215:=by
   rw [BitVec.toNat_and]
   exact Nat.le_trans Nat.and_le_right (by decide)
  generalize (BitVec.ofInt IntKind.u64.bits a &&& BitVec.ofInt IntKind.u64.bits 16777215).toNat = m at *
  rw [show IntKind.u64.wrap (m : Int) = m by simp [IntKind.wrap,IntKind.bits,IntKind.signed];omega]
  omega
 obtain ⟨h2,h3⟩:=h1 (uM .u64 (dH h) 33)
 unfold dX
 rw [vc (by omega)]
 exact ⟨h2,h3⟩
theorem Dc.bnd (d : Dc) {n : Int} (hn : 1 ≤ n) : 0 ≤ d.val n ∧ d.val n < n:=by
 have hx:=xz d.h
 have hv : 0 ≤ (if d.i < d.bs.length then IntKind.i64.wrap (dX d.h + IntKind.i64.wrap (gi d.bs d.i.toNat)) else dX d.h):=by
  split
  · rename_i h
    have hb:=d.byt d.i.toNat (by have:=d.ok;omega)
    rw [vc (n:=gi d.bs d.i.toNat) (by omega),vc (by omega)]
    omega
  · exact hx.1
 unfold Dc.val
 rw [Int.tmod_eq_emod_of_nonneg hv]
 exact ⟨Int.emod_nonneg _ (by omega),Int.emod_lt_of_pos _ (by omega)⟩
theorem ir (d : Dc) (n : Int) (hn : 1 ≤ n ∧ n ≤ 1125899906842624) : dJ Try.prog 29 (fun ν=>[.ad (ν 0) 0,.c (.int .i64 n)]) [diE d] [diE d.nxt] [] (fun _=>.c (.int .i64 (d.val n))):=by
 obtain ⟨bs,i,h0,hl,hb,hi⟩:=d
 (refine eu aP Try.func29 rfl rfl (fun _=>by kernel_rfl) rfl rfl rfl rfl (by first|exact im _|exact fY (j:=0) (by simp) (by simp [Ent.kind])|exact fZ (j:=0) (by simp) (by simp [Ent.kind])|exact er rfl|exact fa|exact io _) fun hp0 ν hX hN=>?_;simp only [cS,Nat.reduceAdd])
 (repeat' (first|(with_reducible first|(refine hK _ _ ?_;clear hK K)|(refine aa _ ?_;clear aa K)|(refine ab _ _ _ ?_;clear ab K)|(refine ac _ _ ?_;clear ac K)|refine bm ?_|refine ce ?_|refine bd ?_|refine ax ?_|refine au ?_|refine cf ?_|refine aK ?_|refine be ?_|refine cg ?_|refine bf ?_|refine bg rfl ?_|refine bn ?_|refine bh ?_|refine ch ?_|refine bi ?_|refine aJ ?_|refine n_k ?_|refine bj ?_|(refine ae ?_;clear ae X af Y)|(refine af ?_;clear ae X af Y))|(with_reducible refine bt ?_;first|refine bp rfl ?_|refine br rfl ?_)|(with_reducible refine bA ?_;first|refine ay rfl rfl rfl rfl ?_|refine aM rfl rfl rfl ?_|refine bw rfl rfl rfl rfl ?_)|(with_reducible refine cx ?_;first|refine bM rfl rfl rfl rfl ?_|refine ci rfl rfl rfl ?_|refine cD rfl rfl rfl rfl ?_|refine cE hN (by apply Exists.intro;apply And.intro;(repeat' (first|apply FtI.nil|apply FI.nil|apply FI.cons|apply FtI.cons));kernel_rfl) ?_)|((first|(with_reducible first|refine bu rfl rfl fun K hK=>?_|refine cB rfl rfl fun K ab=>?_|refine bv rfl rfl fun K aa=>?_|refine cC rfl rfl fun K ac=>?_|refine aL fun X Y ae af=>?_|refine aN ?_));simp (disch:=first|decide|omega|(simp only [List.length_cons,List.length_nil];omega)) only [go_sem,beq_self_eq_true,↓aj,↓ak hN,am hN,reduceIte,reduceCtorEq,Nat.reduceAdd,Nat.reduceLT,Nat.reduceLeDiff,Nat.reduceEqDiff,Nat.reduceSub])|(with_reducible refine And.intro (fun h=>?_) (fun h=>?_) <;> try (exfalso;omega))|(with_reducible refine bo aP hN rfl ?_ ?_;kernel_rfl)|(with_reducible refine bO aP hN rfl ?_ ?_ ?_ ?_;(kernel_rfl);(kernel_rfl);(kernel_rfl))|(with_reducible refine And.intro ?_ ?_)|(refine ah ?_;omega)|(exact bz hN (by decide))))
 · (refine ⟨.inr rfl,_,(by first|exact cY rfl rfl|exact cR hN rfl rfl rfl rfl|exact cM hN rfl rfl rfl rfl rfl|(simp (disch:=first|decide|omega|(simp only [List.length_cons,List.length_nil];omega)) only [cw,cA,cF,cG,go_sem,beq_self_eq_true,↓aj,↓ak hN,am hN,reduceIte,reduceCtorEq,Nat.reduceAdd,Nat.reduceLT,Nat.reduceLeDiff,Nat.reduceEqDiff,Nat.reduceSub];rfl)|rfl),[],_,rfl,?_,rfl,?_⟩;(all_goals try simp only [List.drop,List.take,List.cons_append,List.nil_append,nmL,List.length_cons,List.length_nil,Nat.reduceAdd,List.getD_cons_zero]);(repeat' (first|(with_reducible first|exact bS _|exact bT|exact bU|refine bV ?_ ?_|refine bW ?_ ?_|exact az _|exact bQ _|exact ap _|rfl|exact aU _ _|refine aB ?_|exact bR _|refine aY ?_)|refine bX rfl ?_ ?_|exact aV hN _ rfl rfl rfl|exact aW hN _ rfl rfl rfl|exact aC hN _ rfl rfl rfl (Or.inr rfl)|(refine aX hN _ rfl rfl (by first|exact Or.inr rfl|exact Or.inl rfl) ?_;first|exact aH _|exact aI _)|refine aD hN rfl ?_|refine aE hN rfl rfl ?_|exact aA hN _ rfl rfl|exact aF hN rfl rfl rfl rfl|(with_reducible first|refine aT ?_|refine bJ ?_|refine bK ?_|refine bL ?_|refine bH ?_|refine bI ?_))))
   all_goals simp [Dc.nxt,Dc.val,dX,dH, *]
 · (refine ⟨.inr rfl,_,(by first|exact cY rfl rfl|exact cR hN rfl rfl rfl rfl|exact cM hN rfl rfl rfl rfl rfl|(simp (disch:=first|decide|omega|(simp only [List.length_cons,List.length_nil];omega)) only [cw,cA,cF,cG,go_sem,beq_self_eq_true,↓aj,↓ak hN,am hN,reduceIte,reduceCtorEq,Nat.reduceAdd,Nat.reduceLT,Nat.reduceLeDiff,Nat.reduceEqDiff,Nat.reduceSub];rfl)|rfl),[],_,rfl,?_,rfl,?_⟩;(all_goals try simp only [List.drop,List.take,List.cons_append,List.nil_append,nmL,List.length_cons,List.length_nil,Nat.reduceAdd,List.getD_cons_zero]);(repeat' (first|(with_reducible first|exact bS _|exact bT|exact bU|refine bV ?_ ?_|refine bW ?_ ?_|exact az _|exact bQ _|exact ap _|rfl|exact aU _ _|refine aB ?_|exact bR _|refine aY ?_)|refine bX rfl ?_ ?_|exact aV hN _ rfl rfl rfl|exact aW hN _ rfl rfl rfl|exact aC hN _ rfl rfl rfl (Or.inr rfl)|(refine aX hN _ rfl rfl (by first|exact Or.inr rfl|exact Or.inl rfl) ?_;first|exact aH _|exact aI _)|refine aD hN rfl ?_|refine aE hN rfl rfl ?_|exact aA hN _ rfl rfl|exact aF hN rfl rfl rfl rfl|(with_reducible first|refine aT ?_|refine bJ ?_|refine bK ?_|refine bL ?_|refine bH ?_|refine bI ?_))))
   all_goals simp [Dc.nxt,Dc.val,dX,dH, *]
end Go.Proofs.Ytfaefmabjjndeaa
namespace Go.Proofs.Ytfaefmabjjndeaa
set_option linter.unusedVariables false
set_option linter.unusedSimpArgs false
open Go.RowKit
attribute [local irreducible] aG cP Aw Le
def fq : List Int → Int → List Int
 | [], x => [x]
 | y :: ys, x => if y < x then y :: fq ys x else if y = x then y :: ys else x :: y :: ys
theorem oJ {x z : Int} : ∀ {xs : List Int},z ∈ fq xs x ↔ z = x ∨ z ∈ xs:=by
 intro xs
 induction xs with
 | nil => simp [fq]
 | cons y ys ih =>
   unfold fq
   split
   · rw [List.mem_cons,ih,List.mem_cons]
     exact ⟨fun h=>h.elim (fun h=>.inr (.inl h)) fun h=>h.elim .inl fun h=>.inr (.inr h),fun h=>h.elim (fun h=>.inr (.inl h)) fun h=>h.elim .inl fun h=>.inr (.inr h)⟩
   · split
     · rename_i _ h;subst h
       exact ⟨fun h=>.inr h,fun h=>h.elim (fun h=>by rw [h];exact List.mem_cons_self) id⟩
     · rw [List.mem_cons]
theorem tY (x : Int) : ∀ xs : List Int,(fq xs x).length ≤ xs.length + 1:=by
 intro xs
 induction xs with
 | nil => simp [fq]
 | cons y ys ih =>
   unfold fq
   split
   · simp;omega
   · split
     · simp
     · simp
theorem ng {x : Int} : ∀ {xs : List Int} {k : Nat},k ≤ xs.length → (∀ j,j < k → gi xs j < x) → (k < xs.length → ¬ gi xs k < x) → fq xs x = if k < xs.length ∧ gi xs k = x then xs else xs.take k ++ x :: xs.drop k:=by
 intro xs
 induction xs with
 | nil =>
   intro k hk _ _
   have : k = 0:=by simpa using hk
   subst this;rfl
 | cons y ys ih =>
   intro k hk h1 h2
   cases k with
   | zero =>
     have h3 : ¬ y < x:=h2 (by simp)
     unfold fq
     rw [if_neg h3]
     by_cases h4 : y = x
     · rw [if_pos h4,if_pos ⟨by simp,h4⟩]
     · rw [if_neg h4,if_neg fun h=>h4 h.2];rfl
   | succ k =>
     have h3 : y < x:=h1 0 (by omega)
     unfold fq
     rw [if_pos h3,ih (k:=k) (by simpa using hk) (fun j hj=>h1 (j + 1) (by omega)) (fun h=>h2 (by simpa using h))]
     by_cases h5 : k < ys.length ∧ gi ys k = x
     · rw [if_pos h5,if_pos ⟨by simpa using h5.1,h5.2⟩]
     · rw [if_neg h5,if_neg fun h=>h5 ⟨by simpa using h.1,h.2⟩];rfl
theorem ez {y m : Int} {ys : List Int} : cO (y :: ys) m ↔ (0 ≤ y ∧ y < m) ∧ cO ys m ∧ ∀ z,z ∈ ys → y < z:=by
 constructor
 · intro h
   have h0:=h 0 (by simp)
   refine ⟨⟨h0.1,h0.2.1⟩,fun k hk=>?_,fun z hz=>?_⟩
   · have:=h (k + 1) (by simpa using hk)
     refine ⟨this.1,this.2.1,fun hk0=>?_⟩
     have h2:=this.2.2 (by omega)
     obtain ⟨j,rfl⟩ : ∃ j,k = j + 1:=⟨k - 1,by omega⟩
     exact h2
   · obtain ⟨j,hj,e⟩:=dm hz
     have key : ∀ j,j < ys.length → y < gi ys j:=by
      intro j
      induction j with
      | zero => intro hj; exact (h 1 (by simp; omega)).2.2 (by omega)
      | succ j ih =>
        intro hj
        have:=ih (by omega)
        have h2:=(h (j + 2) (by simp;omega)).2.2 (by omega)
        have h3 : gi ys j < gi ys (j + 1):=h2
        omega
     rw [← e];exact key j hj
 · rintro ⟨⟨h1,h2⟩,h3,h4⟩ k hk
   cases k with
   | zero => exact ⟨h1, h2, fun h => by omega⟩
   | succ k =>
     have hk' : k < ys.length:=by simpa using hk
     obtain ⟨a,b,c⟩:=h3 k hk'
     refine ⟨a,b,fun _=>?_⟩
     cases k with
     | zero => exact h4 _ (dz hk')
     | succ k => exact c (by omega)
theorem pX {x m : Int} (h0 : 0 ≤ x) (h1 : x < m) : ∀ {xs : List Int},cO xs m → cO (fq xs x) m:=by
 intro xs
 induction xs with
 | nil => intro _; exact ez.2 ⟨⟨h0, h1⟩, fun k hk => absurd hk (Nat.not_lt_zero _), fun z hz => by simp at hz⟩
 | cons y ys ih =>
   intro h
   obtain ⟨a,b,c⟩:=ez.1 h
   unfold fq
   split
   · refine ez.2 ⟨a,ih b,fun z hz=>?_⟩
     rcases oJ.1 hz with rfl|hz
     · assumption
     · exact c z hz
   · split
     · exact h
     · refine ez.2 ⟨⟨h0,h1⟩,h,fun z hz=>?_⟩
       rcases List.mem_cons.1 hz with rfl|hz
       · omega
       · have:=c z hz;omega
theorem tZ (xs : List Int) (x : Int) (hl : xs.length ≤ 65536) : aG Try.prog 150 [.c (.I xs),.c (.int .i64 x)] [] (fun _=>.c (.I (fq xs x))):=by
 (refine b8 aP Try.func150 rfl rfl (by kernel_rfl) fun hp0 ν hX hN=>?_;simp only [cS,Nat.reduceAdd])
 (repeat' (first|(with_reducible first|(refine hK _ _ ?_;clear hK K)|(refine aa _ ?_;clear aa K)|refine bm ?_|refine ce ?_|refine bd ?_|refine ax ?_|refine au ?_|refine cf ?_|refine aK ?_|refine be ?_|refine cg ?_|refine bf ?_|refine bg rfl ?_|refine bn ?_|refine bh ?_|refine ch ?_|refine bi ?_|refine aJ ?_|refine n_k ?_|refine bj ?_|(refine ae ?_;clear ae X af Y)|(refine af ?_;clear ae X af Y))|(with_reducible refine bt ?_;first|refine bp rfl ?_|refine br rfl ?_)|(with_reducible refine bA ?_;first|refine ay rfl rfl rfl rfl ?_|refine aM rfl rfl rfl ?_|refine bw rfl rfl rfl rfl ?_)|((first|(with_reducible first|refine bu rfl rfl fun K hK=>?_|refine bv rfl rfl fun K aa=>?_|refine aL fun X Y ae af=>?_|refine aN ?_)|(with_reducible refine bA ?_;refine bN rfl rfl fun X Y ae af=>?_));simp (disch:=first|decide|omega|(simp only [List.length_cons,List.length_nil];omega)) only [go_sem,beq_self_eq_true,↓aj,↓ak hN,am hN,reduceIte,reduceCtorEq,Nat.reduceAdd,Nat.reduceLT,Nat.reduceLeDiff,Nat.reduceEqDiff,Nat.reduceSub])|(with_reducible refine And.intro (fun h=>?_) (fun h=>?_) <;> try (exfalso;omega))|(with_reducible refine bo aP hN rfl ?_ ?_;kernel_rfl)|(with_reducible refine And.intro ?_ ?_)|(refine ah ?_;omega)|(exact bz hN (by decide))))
 (refine cr (fun (k : Nat)=>(tmL [(5,.c (.int .i64 k)),(0,.c (.I xs)),(1,.c (.int .i64 x))],hpL hp0 ν [])) (fun (k : Nat)=>k ≤ xs.length ∧ ∀ j,j < k → gi xs j < x) (fun (k : Nat)=>xs.length - k) ⟨0,?_,bZ hX hN [] ?_ ?_⟩ ?_;(repeat' (first|(with_reducible first|exact bS _|exact bT|exact bU|refine bV ?_ ?_|refine bW ?_ ?_|exact az _|exact bQ _|exact ap _|rfl|exact aU _ _|refine aB ?_|exact bR _|refine aY ?_)|refine bX rfl ?_ ?_|exact aV hN _ rfl rfl rfl|exact aW hN _ rfl rfl rfl|exact aC hN _ rfl rfl rfl (Or.inr rfl)|(refine aX hN _ rfl rfl (by first|exact Or.inr rfl|exact Or.inl rfl) ?_;first|exact aH _|exact aI _)|refine aD hN rfl ?_|refine aE hN rfl rfl ?_|exact aA hN _ rfl rfl|exact aF hN rfl rfl rfl rfl|(with_reducible first|refine aT ?_|refine bJ ?_|refine bK ?_|refine bL ?_|refine bH ?_|refine bI ?_)));(try (any_goals (first|(with_reducible rfl)|(refine ah ?_;omega)))))
 · exact ⟨Nat.zero_le _,fun j hj=>absurd hj (Nat.not_lt_zero _)⟩
 rintro k ⟨hk,ho⟩
 have hdr : List.drop (Int.toNat 0) (List.take k xs) = xs.take k:=rfl
 have hdl : List.drop k (List.take xs.length xs) = xs.drop k:=by rw [List.take_length]
 have hl1 : (xs.take k).length = k:=by simp;omega
 have hl2 : (xs.drop k).length = xs.length - k:=by simp
 (repeat' (first|(with_reducible first|(refine hK _ _ ?_;clear hK K)|(refine aa _ ?_;clear aa K)|refine bm ?_|refine ce ?_|refine bd ?_|refine ax ?_|refine au ?_|refine cf ?_|refine aK ?_|refine be ?_|refine cg ?_|refine bf ?_|refine bg rfl ?_|refine bn ?_|refine bh ?_|refine ch ?_|refine bi ?_|refine aJ ?_|refine n_k ?_|refine bj ?_|(refine ae ?_;clear ae X af Y)|(refine af ?_;clear ae X af Y))|(with_reducible refine bt ?_;first|refine bp rfl ?_|refine br rfl ?_)|(with_reducible refine bA ?_;first|refine ay rfl rfl rfl rfl ?_|refine aM rfl rfl rfl ?_|refine bw rfl rfl rfl rfl ?_)|((first|(with_reducible first|refine bu rfl rfl fun K hK=>?_|refine bv rfl rfl fun K aa=>?_|refine aL fun X Y ae af=>?_|refine aN ?_)|(with_reducible refine bA ?_;refine bN rfl rfl fun X Y ae af=>?_));simp (disch:=first|decide|omega|(simp only [List.length_cons,List.length_nil];omega)) only [go_sem,beq_self_eq_true,↓aj,↓ak hN,am hN,reduceIte,reduceCtorEq,Nat.reduceAdd,Nat.reduceLT,Nat.reduceLeDiff,Nat.reduceEqDiff,Nat.reduceSub])|(with_reducible refine And.intro (fun h=>?_) (fun h=>?_) <;> try (exfalso;omega))|(with_reducible refine bo aP hN rfl ?_ ?_;kernel_rfl)|(refine bc (fp ?_ ?_) ?_ rfl (fun _=>rfl) ?_)|(with_reducible first|exact aq|refine ao ?_ ?_|exact cn _|refine aZ ?_|exact aS _|exact bG _ _|refine bF ?_|exact aQ _)|exact a8 hN rfl rfl|(refine bE hN rfl ?_;first|exact aH _|exact aI _)|exact aR rfl rfl rfl|(simp only [bC,List.map_nil])|(with_reducible refine cc ?_)|(with_reducible refine And.intro ?_ ?_)|(refine ah ?_;omega)|(exact bz hN (by decide))))
 all_goals try simp only [hdr,hdl]
 all_goals try (refine ah ?_;omega)
 · (refine ⟨k + 1,⟨?_,?_⟩,bZ hX hN [] ?_ ?_⟩;(try any_goals dsimp only);(repeat' (first|(with_reducible first|exact bS _|exact bT|exact bU|refine bV ?_ ?_|refine bW ?_ ?_|exact az _|exact bQ _|exact ap _|rfl|exact aU _ _|refine aB ?_|exact bR _|refine aY ?_)|refine bX rfl ?_ ?_|exact aV hN _ rfl rfl rfl|exact aW hN _ rfl rfl rfl|exact aC hN _ rfl rfl rfl (Or.inr rfl)|(refine aX hN _ rfl rfl (by first|exact Or.inr rfl|exact Or.inl rfl) ?_;first|exact aH _|exact aI _)|refine aD hN rfl ?_|refine aE hN rfl rfl ?_|exact aA hN _ rfl rfl|exact aF hN rfl rfl rfl rfl|(with_reducible first|refine aT ?_|refine bJ ?_|refine bK ?_|refine bL ?_|refine bH ?_|refine bI ?_)));(try (any_goals (first|(with_reducible rfl)|(refine ah ?_;omega)))))
   exact ⟨by omega,eK ho (by assumption)⟩
 · (refine iD hN [] (by decide) (.inr rfl) (by first|exact cY rfl rfl|exact cR hN rfl rfl rfl rfl|exact cM hN rfl rfl rfl rfl rfl|(simp (disch:=first|decide|omega|(simp only [List.length_cons,List.length_nil];omega)) only [cw,cA,cF,cG,go_sem,beq_self_eq_true,↓aj,↓ak hN,am hN,reduceIte,reduceCtorEq,Nat.reduceAdd,Nat.reduceLT,Nat.reduceLeDiff,Nat.reduceEqDiff,Nat.reduceSub];rfl)|rfl) ?_ fun νs hνs=>?_;(repeat' (first|exact Gone.nil|(refine Gone.cons rfl rfl ?_ ?_)|(with_reducible refine fM ?_)|(with_reducible refine fL ?_)|(with_reducible refine SVs.cons ?_ ?_)|(with_reducible exact SVs.nil)|(simp only [List.drop,List.take])|(simp (disch:=first|decide|omega) only [↓aj,reduceIte,reduceCtorEq,Nat.reduceEqDiff])|(with_reducible exact lw _)|(with_reducible exact fJ _)|(exact fK rfl rfl rfl)|(exact fX 0 (by simp) rfl rfl)|(refine iC hN rfl (fN hN (by decide)) ?_)|(with_reducible refine iB ?_)|(with_reducible rfl)|(with_reducible refine bJ ?_)|(with_reducible refine bK ?_)|(with_reducible refine bL ?_)|(with_reducible refine bH ?_)|(with_reducible refine bI ?_)|(refine ah ?_;omega))))
   rw [ng hk ho (fun _=>by assumption),if_pos ⟨by omega,by assumption⟩]
 · have hne : ¬ gi xs k = x:=beq_eq_false_iff_ne.1 (by assumption)
   (refine iD hN [] (by decide) (.inr rfl) (by first|exact cY rfl rfl|exact cR hN rfl rfl rfl rfl|exact cM hN rfl rfl rfl rfl rfl|(simp (disch:=first|decide|omega|(simp only [List.length_cons,List.length_nil];omega)) only [cw,cA,cF,cG,go_sem,beq_self_eq_true,↓aj,↓ak hN,am hN,reduceIte,reduceCtorEq,Nat.reduceAdd,Nat.reduceLT,Nat.reduceLeDiff,Nat.reduceEqDiff,Nat.reduceSub];rfl)|rfl) ?_ fun νs hνs=>?_;(repeat' (first|exact Gone.nil|(refine Gone.cons rfl rfl ?_ ?_)|(with_reducible refine fM ?_)|(with_reducible refine fL ?_)|(with_reducible refine SVs.cons ?_ ?_)|(with_reducible exact SVs.nil)|(simp only [List.drop,List.take])|(simp (disch:=first|decide|omega) only [↓aj,reduceIte,reduceCtorEq,Nat.reduceEqDiff])|(with_reducible exact lw _)|(with_reducible exact fJ _)|(exact fK rfl rfl rfl)|(exact fX 0 (by simp) rfl rfl)|(refine iC hN rfl (fN hN (by decide)) ?_)|(with_reducible refine iB ?_)|(with_reducible rfl)|(with_reducible refine bJ ?_)|(with_reducible refine bK ?_)|(with_reducible refine bL ?_)|(with_reducible refine bH ?_)|(with_reducible refine bI ?_)|(refine ah ?_;omega))))
   rw [ng hk ho (fun _=>by assumption),if_neg fun h=>hne h.2];simp
 · (refine iD hN [] (by decide) (.inr rfl) (by first|exact cY rfl rfl|exact cR hN rfl rfl rfl rfl|exact cM hN rfl rfl rfl rfl rfl|(simp (disch:=first|decide|omega|(simp only [List.length_cons,List.length_nil];omega)) only [cw,cA,cF,cG,go_sem,beq_self_eq_true,↓aj,↓ak hN,am hN,reduceIte,reduceCtorEq,Nat.reduceAdd,Nat.reduceLT,Nat.reduceLeDiff,Nat.reduceEqDiff,Nat.reduceSub];rfl)|rfl) ?_ fun νs hνs=>?_;(repeat' (first|exact Gone.nil|(refine Gone.cons rfl rfl ?_ ?_)|(with_reducible refine fM ?_)|(with_reducible refine fL ?_)|(with_reducible refine SVs.cons ?_ ?_)|(with_reducible exact SVs.nil)|(simp only [List.drop,List.take])|(simp (disch:=first|decide|omega) only [↓aj,reduceIte,reduceCtorEq,Nat.reduceEqDiff])|(with_reducible exact lw _)|(with_reducible exact fJ _)|(exact fK rfl rfl rfl)|(exact fX 0 (by simp) rfl rfl)|(refine iC hN rfl (fN hN (by decide)) ?_)|(with_reducible refine iB ?_)|(with_reducible rfl)|(with_reducible refine bJ ?_)|(with_reducible refine bK ?_)|(with_reducible refine bL ?_)|(with_reducible refine bH ?_)|(with_reducible refine bI ?_)|(refine ah ?_;omega))))
   rw [ng hk ho (fun h=>absurd h (by omega)),if_neg fun h=>by omega];simp
def gg (a b : List Int) : List Int:=b.foldl fq a
theorem rY {z : Int} : ∀ {b a : List Int},z ∈ gg a b ↔ z ∈ a ∨ z ∈ b:=by
 intro b
 induction b with
 | nil => intro a; simp [gg]
 | cons y ys ih =>
   intro a
   show z ∈ gg (fq a y) ys ↔ _
   rw [ih,oJ,List.mem_cons]
   exact ⟨fun h=>h.elim (fun h=>h.elim (fun h=>.inr (.inl h)) .inl) fun h=>.inr (.inr h),fun h=>h.elim (fun h=>.inl (.inr h)) fun h=>h.elim (fun h=>.inl (.inl h)) .inr⟩
theorem jR {m : Int} : ∀ {b a : List Int},cO a m → cO b m → cO (gg a b) m:=by
 intro b
 induction b with
 | nil => intro a h _; exact h
 | cons y ys ih =>
   intro a h k
   obtain ⟨h1,h2,_⟩:=ez.1 k
   exact ih (pX h1.1 h1.2 h) h2
theorem jD : ∀ (b a : List Int),(gg a b).length ≤ a.length + b.length:=by
 intro b
 induction b with
 | nil => intro a; exact Nat.le_refl _
 | cons y ys ih =>
   intro a
   have h1:=ih (fq a y)
   have h2:=tY y a
   show (gg (fq a y) ys).length ≤ _
   simp;omega
theorem pY {a b : List Int} {k : Nat} (h : k < b.length) : (b.take (k + 1)).foldl fq a = fq ((b.take k).foldl fq a) (gi b k):=by
 rw [List.take_succ_eq_append_getElem h,List.foldl_append,dZ h];rfl
theorem t6 (a b : List Int) : aG Try.prog 149 [.c (.I a),.c (.I b)] [] (fun _=>.c (.bool (tf (cO a 256 ∧ cO b 256)))):=by
 (refine b8 aP Try.func149 rfl rfl (by kernel_rfl) fun hp0 ν hX hN=>?_;simp only [cS,Nat.reduceAdd])
 (repeat' (first|(with_reducible first|(refine hK _ _ ?_;clear hK K)|(refine aa _ ?_;clear aa K)|refine bm ?_|refine ce ?_|refine bd ?_|refine ax ?_|refine au ?_|refine cf ?_|refine aK ?_|refine be ?_|refine cg ?_|refine bf ?_|refine bg rfl ?_|refine bn ?_|refine bh ?_|refine ch ?_|refine bi ?_|refine aJ ?_|refine n_k ?_|refine bj ?_|(refine ae ?_;clear ae X af Y)|(refine af ?_;clear ae X af Y))|(with_reducible refine bt ?_;first|refine bp rfl ?_|refine br rfl ?_)|(with_reducible refine bA ?_;first|refine ay rfl rfl rfl rfl ?_|refine aM rfl rfl rfl ?_|refine bw rfl rfl rfl rfl ?_)|((first|(with_reducible first|refine bu rfl rfl fun K hK=>?_|refine bv rfl rfl fun K aa=>?_|refine aL fun X Y ae af=>?_|refine aN ?_)|(with_reducible refine bA ?_;refine bN rfl rfl fun X Y ae af=>?_));simp (disch:=first|decide|omega|(simp only [List.length_cons,List.length_nil];omega)) only [go_sem,beq_self_eq_true,↓aj,↓ak hN,am hN,reduceIte,reduceCtorEq,Nat.reduceAdd,Nat.reduceLT,Nat.reduceLeDiff,Nat.reduceEqDiff,Nat.reduceSub])|(with_reducible refine And.intro (fun h=>?_) (fun h=>?_) <;> try (exfalso;omega))|(with_reducible refine bo aP hN rfl ?_ ?_;kernel_rfl)|(refine bc (vv ?_ ?_) ?_ rfl (fun _=>rfl) ?_)|(with_reducible first|exact aq|refine ao ?_ ?_|exact cn _|refine aZ ?_|exact aS _|exact bG _ _|refine bF ?_|exact aQ _)|exact a8 hN rfl rfl|(refine bE hN rfl ?_;first|exact aH _|exact aI _)|exact aR rfl rfl rfl|(simp only [bC,List.map_nil])|(with_reducible refine cc ?_)|(with_reducible refine And.intro ?_ ?_)|(refine ah ?_;omega)|(exact bz hN (by decide))))
 all_goals (refine cQ (.inr rfl) (by first|rfl|(simp (disch:=first|decide|omega|(simp only [List.length_cons,List.length_nil];omega)) only [cw,cA,cF,cG,go_sem,beq_self_eq_true,↓aj,↓ak hN,am hN,reduceIte,reduceCtorEq,Nat.reduceAdd,Nat.reduceLT,Nat.reduceLeDiff,Nat.reduceEqDiff,Nat.reduceSub];rfl)) ?_)
 all_goals refine bI ?_
 · exact iP ⟨fun e=>⟨And.right (by assumption),e.2⟩,fun e=>⟨by omega,e.2⟩⟩
 · exact (ba fun e=>(by assumption : ¬ ((0 ≤ (256 : Int) ∧ (256 : Int) ≤ 256) ∧ cO a 256)) ⟨by omega,e.1⟩).symm
theorem rZ (a b : List Int) (ha : cO a 256) (hb : cO b 256) : aG Try.prog 71 [.c (.I a),.c (.I b)] [] (fun _=>.c (.I (gg a b))):=by
 have hla:=jm ha (by omega)
 have hlb:=jm hb (by omega)
 have hok:=t6 a b
 rw [bP ⟨ha,hb⟩] at hok
 (refine b8 aP Try.func71 rfl rfl (by kernel_rfl) fun hp0 ν hX hN=>?_;simp only [cS,Nat.reduceAdd])
 (repeat' (first|(with_reducible first|(refine hK _ _ ?_;clear hK K)|(refine aa _ ?_;clear aa K)|refine bm ?_|refine ce ?_|refine bd ?_|refine ax ?_|refine au ?_|refine cf ?_|refine aK ?_|refine be ?_|refine cg ?_|refine bf ?_|refine bg rfl ?_|refine bn ?_|refine bh ?_|refine ch ?_|refine bi ?_|refine aJ ?_|refine n_k ?_|refine bj ?_|(refine ae ?_;clear ae X af Y)|(refine af ?_;clear ae X af Y))|(with_reducible refine bt ?_;first|refine bp rfl ?_|refine br rfl ?_)|(with_reducible refine bA ?_;first|refine ay rfl rfl rfl rfl ?_|refine aM rfl rfl rfl ?_|refine bw rfl rfl rfl rfl ?_)|((first|(with_reducible first|refine bu rfl rfl fun K hK=>?_|refine bv rfl rfl fun K aa=>?_|refine aL fun X Y ae af=>?_|refine aN ?_));simp (disch:=first|decide|omega|(simp only [List.length_cons,List.length_nil];omega)) only [go_sem,beq_self_eq_true,↓aj,↓ak hN,am hN,reduceIte,reduceCtorEq,Nat.reduceAdd,Nat.reduceLT,Nat.reduceLeDiff,Nat.reduceEqDiff,Nat.reduceSub])|(with_reducible refine And.intro (fun h=>?_) (fun h=>?_) <;> try (exfalso;omega))|(with_reducible refine bo aP hN rfl ?_ ?_;kernel_rfl)|(refine bc hok ?_ rfl (fun _=>rfl) ?_)|(refine bc (fp a (by omega)) ?_ rfl (fun _=>rfl) ?_;focus ((repeat' (first|(with_reducible first|exact aq|refine ao ?_ ?_|exact cn _|refine aZ ?_|exact aS _|exact bG _ _|refine bF ?_|exact aQ _)|exact a8 hN rfl rfl|(refine bE hN rfl ?_;first|exact aH _|exact aI _)|exact aR rfl rfl rfl));done))|(with_reducible first|exact aq|refine ao ?_ ?_|exact cn _|refine aZ ?_|exact aS _|exact bG _ _|refine bF ?_|exact aQ _)|exact a8 hN rfl rfl|(refine bE hN rfl ?_;first|exact aH _|exact aI _)|exact aR rfl rfl rfl|(simp only [bC,List.map_nil])|(with_reducible refine cc ?_)|(with_reducible refine And.intro ?_ ?_)|(refine ah ?_;omega)|(exact bz hN (by decide))))
 (refine cr (fun (k : Nat)=>(tmL [(6,.c (.int .i64 k)),(5,.c (.I ((b.take k).foldl fq a))),(1,.c (.I b))],hpL hp0 ν [])) (fun (k : Nat)=>k ≤ b.length) (fun (k : Nat)=>b.length - k) ⟨0,?_,bZ hX hN [] ?_ ?_⟩ ?_;(repeat' (first|(with_reducible first|exact bS _|exact bT|exact bU|refine bV ?_ ?_|refine bW ?_ ?_|exact az _|exact bQ _|exact ap _|rfl|exact aU _ _|refine aB ?_|exact bR _|refine aY ?_)|refine bX rfl ?_ ?_|exact aV hN _ rfl rfl rfl|exact aW hN _ rfl rfl rfl|exact aC hN _ rfl rfl rfl (Or.inr rfl)|(refine aX hN _ rfl rfl (by first|exact Or.inr rfl|exact Or.inl rfl) ?_;first|exact aH _|exact aI _)|refine aD hN rfl ?_|refine aE hN rfl rfl ?_|exact aA hN _ rfl rfl|exact aF hN rfl rfl rfl rfl|(with_reducible first|refine aT ?_|refine bJ ?_|refine bK ?_|refine bL ?_|refine bH ?_|refine bI ?_)));(try (any_goals (first|(with_reducible rfl)|(refine ah ?_;omega)))))
 intro k hk
 have hlf:=jD (b.take k) a
 have hlt : (b.take k).length ≤ k:=by simp;omega
 have e : gg a (b.take k) = (b.take k).foldl fq a:=rfl
 rw [e] at hlf
 (repeat' (first|(with_reducible first|(refine hK _ _ ?_;clear hK K)|(refine aa _ ?_;clear aa K)|refine bm ?_|refine ce ?_|refine bd ?_|refine ax ?_|refine au ?_|refine cf ?_|refine aK ?_|refine be ?_|refine cg ?_|refine bf ?_|refine bg rfl ?_|refine bn ?_|refine bh ?_|refine ch ?_|refine bi ?_|refine aJ ?_|refine n_k ?_|refine bj ?_|(refine ae ?_;clear ae X af Y)|(refine af ?_;clear ae X af Y))|(with_reducible refine bt ?_;first|refine bp rfl ?_|refine br rfl ?_)|(with_reducible refine bA ?_;first|refine ay rfl rfl rfl rfl ?_|refine aM rfl rfl rfl ?_|refine bw rfl rfl rfl rfl ?_)|((first|(with_reducible first|refine bu rfl rfl fun K hK=>?_|refine bv rfl rfl fun K aa=>?_|refine aL fun X Y ae af=>?_|refine aN ?_));simp (disch:=first|decide|omega|(simp only [List.length_cons,List.length_nil];omega)) only [go_sem,beq_self_eq_true,↓aj,↓ak hN,am hN,reduceIte,reduceCtorEq,Nat.reduceAdd,Nat.reduceLT,Nat.reduceLeDiff,Nat.reduceEqDiff,Nat.reduceSub])|(with_reducible refine And.intro (fun h=>?_) (fun h=>?_) <;> try (exfalso;omega))|(with_reducible refine bo aP hN rfl ?_ ?_;kernel_rfl)|(refine fD (tZ ((b.take k).foldl fq a) (gi b k) (by omega)) ?_ rfl rfl ?_;focus ((repeat' (first|(with_reducible first|exact aq|refine ao ?_ ?_|exact cn _|refine aZ ?_|exact aS _|exact bG _ _|refine bF ?_|exact aQ _)|exact a8 hN rfl rfl|(refine bE hN rfl ?_;first|exact aH _|exact aI _)|exact aR rfl rfl rfl));done))|(with_reducible first|exact aq|refine ao ?_ ?_|exact cn _|refine aZ ?_|exact aS _|exact bG _ _|refine bF ?_|exact aQ _)|exact a8 hN rfl rfl|(refine bE hN rfl ?_;first|exact aH _|exact aI _)|exact aR rfl rfl rfl|(simp only [bC,List.map_nil])|(with_reducible refine cc ?_)|(with_reducible refine And.intro ?_ ?_)|(refine ah ?_;omega)|(exact bz hN (by decide))))
 · (refine ⟨k + 1,⟨?_,?_⟩,bZ hX hN [] ?_ ?_⟩;(try any_goals dsimp only);(repeat' (first|(with_reducible first|exact bS _|exact bT|exact bU|refine bV ?_ ?_|refine bW ?_ ?_|exact az _|exact bQ _|exact ap _|rfl|exact aU _ _|refine aB ?_|exact bR _|refine aY ?_)|refine bX rfl ?_ ?_|exact aV hN _ rfl rfl rfl|exact aW hN _ rfl rfl rfl|exact aC hN _ rfl rfl rfl (Or.inr rfl)|(refine aX hN _ rfl rfl (by first|exact Or.inr rfl|exact Or.inl rfl) ?_;first|exact aH _|exact aI _)|refine aD hN rfl ?_|refine aE hN rfl rfl ?_|exact aA hN _ rfl rfl|exact aF hN rfl rfl rfl rfl|(with_reducible first|refine aT ?_|refine bJ ?_|refine bK ?_|refine bL ?_|refine bH ?_|refine bI ?_)));(try (any_goals (first|(with_reducible rfl)|(refine ah ?_;omega)))))
   exact (pY (a:=a) (b:=b) (k:=k) (by omega)).symm
 · (refine iD hN [] (by decide) (.inr rfl) (by first|exact cY rfl rfl|exact cR hN rfl rfl rfl rfl|exact cM hN rfl rfl rfl rfl rfl|(simp (disch:=first|decide|omega|(simp only [List.length_cons,List.length_nil];omega)) only [cw,cA,cF,cG,go_sem,beq_self_eq_true,↓aj,↓ak hN,am hN,reduceIte,reduceCtorEq,Nat.reduceAdd,Nat.reduceLT,Nat.reduceLeDiff,Nat.reduceEqDiff,Nat.reduceSub];rfl)|rfl) ?_ fun νs hνs=>?_;(repeat' (first|exact Gone.nil|(refine Gone.cons rfl rfl ?_ ?_)|(with_reducible refine fM ?_)|(with_reducible refine fL ?_)|(with_reducible refine SVs.cons ?_ ?_)|(with_reducible exact SVs.nil)|(simp only [List.drop,List.take])|(simp (disch:=first|decide|omega) only [↓aj,reduceIte,reduceCtorEq,Nat.reduceEqDiff])|(with_reducible exact lw _)|(with_reducible exact fJ _)|(exact fK rfl rfl rfl)|(exact fX 0 (by simp) rfl rfl)|(refine iC hN rfl (fN hN (by decide)) ?_)|(with_reducible refine iB ?_)|(with_reducible rfl)|(with_reducible refine bJ ?_)|(with_reducible refine bK ?_)|(with_reducible refine bL ?_)|(with_reducible refine bH ?_)|(with_reducible refine bI ?_)|(refine ah ?_;omega))))
   rw [show k = b.length by omega,List.take_length];rfl
end Go.Proofs.Ytfaefmabjjndeaa
namespace Go.Proofs.Ytfaefmabjjndeaa
set_option linter.unusedVariables false
set_option linter.unusedSimpArgs false
open Go.RowKit
attribute [local irreducible] aG cP Aw Le
def eg (n : Int) : Nat → Dc → List Int → List Int × Dc
 | 0, d, r => (r, d)
 | k + 1, d, r => eg n k d.nxt (gg r [d.val n])
def fu (n pm : Int) : Nat → Dc → List Int → List (List Int) → List Int → Pa × Dc
 | 0, d, o, x, p => (⟨⟨o, x⟩, p⟩, d)
 | k + 1, d, o, x, p => fu n pm k (eg n (1 + d.val 3).toNat d.nxt []).2.nxt.nxt (o ++ [(eg n (1 + d.val 3).toNat d.nxt []).2.val 2]) (x ++ [(eg n (1 + d.val 3).toNat d.nxt []).1]) (p ++ [(eg n (1 + d.val 3).toNat d.nxt []).2.nxt.val pm])
def g7 (d : Dc) (most pm : Int) : Pa × Dc:=fu (1 + d.val most) pm (1 + d.val most).toNat d.nxt [] [] []
theorem jE (n : Int) : cO [] n:=fun k hk=>absurd hk (Nat.not_lt_zero _)
theorem jF {x n : Int} (h0 : 0 ≤ x) (h1 : x < n) : cO [x] n:=ez.2 ⟨⟨h0,h1⟩,jE n,fun z hz=>by simp at hz⟩
theorem t7 {n : Int} (hn : 1 ≤ n) : ∀ (k : Nat) (d : Dc) (r : List Int),cO r n → cO (eg n k d r).1 n ∧ (eg n k d r).1.length ≤ r.length + k ∧ (0 < k ∨ r ≠ [] → 1 ≤ (eg n k d r).1.length):=by
 intro k
 induction k with
 | zero => intro d r h; exact ⟨h, Nat.le_refl _, fun h => by rcases h with h | h; (· omega); exact List.length_pos_iff.2 h⟩
 | succ k ih =>
   intro d r h
   have hb:=d.bnd hn
   obtain ⟨h1,h2,h3⟩:=ih d.nxt (gg r [d.val n]) (jR h (jF hb.1 hb.2))
   have h4:=jD [d.val n] r
   refine ⟨h1,by show (eg n k d.nxt (gg r [d.val n])).1.length ≤ _;simp at h4;omega,fun _=>h3 (.inr fun e=>?_)⟩
   have : d.val n ∈ gg r [d.val n]:=rY.2 (.inr (by simp))
   rw [e] at this;cases this
structure GPart (n pm : Int) (o : List Int) (x : List (List Int)) (p : List Int) : Prop where
 l1 : x.length = o.length
 l2 : p.length = o.length
 at' : ∀ v,v < o.length → (0 ≤ gi o v ∧ gi o v ≤ 1) ∧ (1 ≤ (gr x v).length ∧ (gr x v).length ≤ 3 ∧ cO (gr x v) n) ∧ 0 ≤ gi p v ∧ gi p v < pm
theorem vM {xs : List (List Int)} {y : List Int} {v : Nat} (h : v ≤ xs.length) : gr (xs ++ [y]) v = if v < xs.length then gr xs v else y:=by
 unfold gr
 rw [dj]
 split
 · rfl
 · have : v - xs.length = 0:=by omega
   rw [this];rfl
theorem GPart.snoc {n pm : Int} {o : List Int} {x : List (List Int)} {p : List Int} (h : GPart n pm o x p) {a b : Int} {r : List Int} (ha : 0 ≤ a ∧ a ≤ 1) (hr : 1 ≤ r.length ∧ r.length ≤ 3 ∧ cO r n) (hb : 0 ≤ b ∧ b < pm) : GPart n pm (o ++ [a]) (x ++ [r]) (p ++ [b]):=by
 have h1:=h.l1
 have h2:=h.l2
 refine ⟨by simp [h1],by simp [h2],fun v hv=>?_⟩
 have hv' : v < o.length + 1:=by simpa using hv
 rw [eX,eX,vM (by omega),h1,h2]
 by_cases e : v < o.length
 · rw [if_pos e,if_pos e,if_pos e];exact h.at' v e
 · have : v = o.length:=by omega
   rw [if_neg e,if_neg e,if_neg e,if_pos this,if_pos this]
   exact ⟨ha,hr,hb⟩
theorem r6 {n pm : Int} (hn : 1 ≤ n) (hp : 1 ≤ pm) : ∀ (k : Nat) (d : Dc) (o : List Int) (x : List (List Int)) (p : List Int),GPart n pm o x p →
  GPart n pm (fu n pm k d o x p).1.ar.own (fu n pm k d o x p).1.ar.nxt (fu n pm k d o x p).1.prio ∧ (fu n pm k d o x p).1.ar.own.length = o.length + k:=by
 intro k
 induction k with
 | zero => intro d o x p h; exact ⟨h, rfl⟩
 | succ k ih =>
   intro d o x p h
   have hb:=d.bnd (n:=3) (by omega)
   obtain ⟨h1,h2,h3⟩:=t7 hn (1 + d.val 3).toNat d.nxt [] (jE n)
   have h4:=(eg n (1 + d.val 3).toNat d.nxt []).2.bnd (n:=2) (by omega)
   have h5:=(eg n (1 + d.val 3).toNat d.nxt []).2.nxt.bnd (n:=pm) hp
   have hl : ([] : List Int).length = 0:=rfl
   have:=ih (eg n (1 + d.val 3).toNat d.nxt []).2.nxt.nxt _ _ _ (h.snoc (a:=(eg n (1 + d.val 3).toNat d.nxt []).2.val 2) (b:=(eg n (1 + d.val 3).toNat d.nxt []).2.nxt.val pm) (r:=(eg n (1 + d.val 3).toNat d.nxt []).1) ⟨h4.1,by omega⟩ ⟨h3 (.inl (by omega)),by omega,h1⟩ h5)
   refine ⟨this.1,this.2.trans ?_⟩
   simp;omega
theorem t8 {d : Dc} {most pm : Int} (hm : 1 ≤ most ∧ most ≤ 16) (hp : 1 ≤ pm ∧ pm ≤ 41) : PaOk (g7 d most pm).1 ∧ ((g7 d most pm).1.prio.length : Int) ≤ most ∧ ∀ v,v < (g7 d most pm).1.prio.length → gi (g7 d most pm).1.prio v < pm:=by
 have hb:=d.bnd hm.1
 obtain ⟨h1,h2⟩:=r6 (n:=1 + d.val most) (pm:=pm) (by omega) (by omega) (1 + d.val most).toNat d.nxt [] [] [] ⟨rfl,rfl,fun v hv=>absurd hv (Nat.not_lt_zero _)⟩
 have hl : ([] : List Int).length = 0:=rfl
 have e : g7 d most pm = fu (1 + d.val most) pm (1 + d.val most).toNat d.nxt [] [] []:=rfl
 rw [← e] at h1 h2
 have h3:=h1.l1
 have h4:=h1.l2
 refine ⟨⟨⟨by omega,by omega,h3,fun v hv=>?_⟩,h4,fun v hv=>?_⟩,by omega,fun v hv=>?_⟩
 · obtain ⟨a,⟨b1,b2,b3⟩,_⟩:=h1.at' v hv
   refine ⟨a.1,a.2,b1,by omega,fun j hj=>?_⟩
   have:=b3 j hj
   exact ⟨this.1,by omega,this.2.2⟩
 · obtain ⟨_,_,c1,c2⟩:=h1.at' v (by omega)
   exact ⟨c1,by omega⟩
 · exact (h1.at' v (by omega)).2.2.2
def ub (bs : List Int) (seed : Int) : Nat → Int
 | 0 => IntKind.u64.wrap (IntKind.u64.wrap (seed * 7919) + IntKind.u64.wrap bs.length)
 | k + 1 => IntKind.u64.wrap (IntKind.u64.wrap (IntKind.u64.wrap (ub bs seed k * 1099511628211) + IntKind.u64.wrap (gi bs k)) + 3)
def wb (bs : List Int) (hl : bs.length ≤ 4096) (hb : ∀ j,j < bs.length → 0 ≤ gi bs j ∧ gi bs j ≤ 255) (seed : Int) : Dc:=⟨bs,0,ub bs seed bs.length,hl,hb,by omega⟩
theorem xA (bs : List Int) (hl : bs.length ≤ 4096) (hb : ∀ j,j < bs.length → 0 ≤ gi bs j ∧ gi bs j ≤ 255) (seed : Int) : dJ Try.prog 16 (fun _=>[.c (.Y bs),.c (.int .u64 seed)]) [] [] [diE (wb bs hl hb seed)] (fun ns=>.ad (ns.getD 0 0) 0):=by
 (refine eu aP Try.func16 rfl rfl (fun _=>by kernel_rfl) rfl rfl rfl rfl (by first|exact im _|exact fY (j:=0) (by simp) (by simp [Ent.kind])|exact fZ (j:=0) (by simp) (by simp [Ent.kind])|exact er rfl|exact fa|exact io _) fun hp0 ν hX hN=>?_;simp only [cS,Nat.reduceAdd])
 (repeat' (first|(with_reducible first|(refine hK _ _ ?_;clear hK K)|(refine aa _ ?_;clear aa K)|(refine ab _ _ _ ?_;clear ab K)|(refine ac _ _ ?_;clear ac K)|refine bm ?_|refine ce ?_|refine bd ?_|refine ax ?_|refine au ?_|refine cf ?_|refine aK ?_|refine be ?_|refine cg ?_|refine bf ?_|refine bg rfl ?_|refine bn ?_|refine bh ?_|refine ch ?_|refine bi ?_|refine aJ ?_|refine n_k ?_|refine bj ?_|(refine ae ?_;clear ae X af Y)|(refine af ?_;clear ae X af Y))|(with_reducible refine bt ?_;first|refine bp rfl ?_|refine br rfl ?_)|(with_reducible refine bA ?_;first|refine ay rfl rfl rfl rfl ?_|refine aM rfl rfl rfl ?_|refine bw rfl rfl rfl rfl ?_)|(with_reducible refine cx ?_;first|refine bM rfl rfl rfl rfl ?_|refine ci rfl rfl rfl ?_|refine cD rfl rfl rfl rfl ?_|refine cE hN (by apply Exists.intro;apply And.intro;(repeat' (first|apply FtI.nil|apply FI.nil|apply FI.cons|apply FtI.cons));kernel_rfl) ?_)|((first|(with_reducible first|refine bu rfl rfl fun K hK=>?_|refine cB rfl rfl fun K ab=>?_|refine bv rfl rfl fun K aa=>?_|refine cC rfl rfl fun K ac=>?_|refine aL fun X Y ae af=>?_|refine aN ?_));simp (disch:=first|decide|omega|(simp only [List.length_cons,List.length_nil];omega)) only [go_sem,beq_self_eq_true,↓aj,↓ak hN,am hN,reduceIte,reduceCtorEq,Nat.reduceAdd,Nat.reduceLT,Nat.reduceLeDiff,Nat.reduceEqDiff,Nat.reduceSub])|(with_reducible refine And.intro (fun h=>?_) (fun h=>?_) <;> try (exfalso;omega))|(with_reducible refine bo aP hN rfl ?_ ?_;kernel_rfl)|(with_reducible refine bO aP hN rfl ?_ ?_ ?_ ?_;(kernel_rfl);(kernel_rfl);(kernel_rfl))|(with_reducible refine And.intro ?_ ?_)|(refine ah ?_;omega)|(exact bz hN (by decide))))
 (refine cr (fun (k : Nat)=>(tmL [(6,.c (.int .i64 k)),(5,.ad (ν 0) 0),(0,.c (.Y bs))],hpL hp0 ν [.box [.c (.Y bs),.c (.int .i64 0),.c (.int .u64 (ub bs seed k))]])) (fun (k : Nat)=>k ≤ bs.length) (fun (k : Nat)=>bs.length - k) ⟨0,?_,bZ hX hN [] ?_ ?_⟩ ?_;(repeat' (first|(with_reducible first|exact bS _|exact bT|exact bU|refine bV ?_ ?_|refine bW ?_ ?_|exact az _|exact bQ _|exact ap _|rfl|exact aU _ _|refine aB ?_|exact bR _|refine aY ?_)|refine bX rfl ?_ ?_|exact aV hN _ rfl rfl rfl|exact aW hN _ rfl rfl rfl|exact aC hN _ rfl rfl rfl (Or.inr rfl)|(refine aX hN _ rfl rfl (by first|exact Or.inr rfl|exact Or.inl rfl) ?_;first|exact aH _|exact aI _)|refine aD hN rfl ?_|refine aE hN rfl rfl ?_|exact aA hN _ rfl rfl|exact aF hN rfl rfl rfl rfl|(with_reducible first|refine aT ?_|refine bJ ?_|refine bK ?_|refine bL ?_|refine bH ?_|refine bI ?_)));(try (any_goals (first|(with_reducible rfl)|(refine ah ?_;omega)))))
 · rfl
 intro k hk
 (repeat' (first|(with_reducible first|(refine hK _ _ ?_;clear hK K)|(refine aa _ ?_;clear aa K)|(refine ab _ _ _ ?_;clear ab K)|(refine ac _ _ ?_;clear ac K)|refine bm ?_|refine ce ?_|refine bd ?_|refine ax ?_|refine au ?_|refine cf ?_|refine aK ?_|refine be ?_|refine cg ?_|refine bf ?_|refine bg rfl ?_|refine bn ?_|refine bh ?_|refine ch ?_|refine bi ?_|refine aJ ?_|refine n_k ?_|refine bj ?_|(refine ae ?_;clear ae X af Y)|(refine af ?_;clear ae X af Y))|(with_reducible refine bt ?_;first|refine bp rfl ?_|refine br rfl ?_)|(with_reducible refine bA ?_;first|refine ay rfl rfl rfl rfl ?_|refine aM rfl rfl rfl ?_|refine bw rfl rfl rfl rfl ?_)|(with_reducible refine cx ?_;first|refine bM rfl rfl rfl rfl ?_|refine ci rfl rfl rfl ?_|refine cD rfl rfl rfl rfl ?_|refine cE hN (by apply Exists.intro;apply And.intro;(repeat' (first|apply FtI.nil|apply FI.nil|apply FI.cons|apply FtI.cons));kernel_rfl) ?_)|((first|(with_reducible first|refine bu rfl rfl fun K hK=>?_|refine cB rfl rfl fun K ab=>?_|refine bv rfl rfl fun K aa=>?_|refine cC rfl rfl fun K ac=>?_|refine aL fun X Y ae af=>?_|refine aN ?_));simp (disch:=first|decide|omega|(simp only [List.length_cons,List.length_nil];omega)) only [go_sem,beq_self_eq_true,↓aj,↓ak hN,am hN,reduceIte,reduceCtorEq,Nat.reduceAdd,Nat.reduceLT,Nat.reduceLeDiff,Nat.reduceEqDiff,Nat.reduceSub])|(with_reducible refine And.intro (fun h=>?_) (fun h=>?_) <;> try (exfalso;omega))|(with_reducible refine bo aP hN rfl ?_ ?_;kernel_rfl)|(with_reducible refine bO aP hN rfl ?_ ?_ ?_ ?_;(kernel_rfl);(kernel_rfl);(kernel_rfl))|(with_reducible refine And.intro ?_ ?_)|(refine ah ?_;omega)|(exact bz hN (by decide))))
 · (refine ⟨k + 1,⟨?_,?_⟩,bZ hX hN [] ?_ ?_⟩;(try any_goals dsimp only);(repeat' (first|(with_reducible first|exact bS _|exact bT|exact bU|refine bV ?_ ?_|refine bW ?_ ?_|exact az _|exact bQ _|exact ap _|rfl|exact aU _ _|refine aB ?_|exact bR _|refine aY ?_)|refine bX rfl ?_ ?_|exact aV hN _ rfl rfl rfl|exact aW hN _ rfl rfl rfl|exact aC hN _ rfl rfl rfl (Or.inr rfl)|(refine aX hN _ rfl rfl (by first|exact Or.inr rfl|exact Or.inl rfl) ?_;first|exact aH _|exact aI _)|refine aD hN rfl ?_|refine aE hN rfl rfl ?_|exact aA hN _ rfl rfl|exact aF hN rfl rfl rfl rfl|(with_reducible first|refine aT ?_|refine bJ ?_|refine bK ?_|refine bL ?_|refine bH ?_|refine bI ?_)));(try (any_goals (first|(with_reducible rfl)|(refine ah ?_;omega)))))
   rfl
 · (refine ⟨.inr rfl,_,(by first|exact cY rfl rfl|exact cR hN rfl rfl rfl rfl|exact cM hN rfl rfl rfl rfl rfl|(simp (disch:=first|decide|omega|(simp only [List.length_cons,List.length_nil];omega)) only [cw,cA,cF,cG,go_sem,beq_self_eq_true,↓aj,↓ak hN,am hN,reduceIte,reduceCtorEq,Nat.reduceAdd,Nat.reduceLT,Nat.reduceLeDiff,Nat.reduceEqDiff,Nat.reduceSub];rfl)|rfl),[],_,rfl,?_,rfl,?_⟩;(all_goals try simp only [List.drop,List.take,List.cons_append,List.nil_append,nmL,List.length_cons,List.length_nil,Nat.reduceAdd,List.getD_cons_zero]);(repeat' (first|(with_reducible first|exact bS _|exact bT|exact bU|refine bV ?_ ?_|refine bW ?_ ?_|exact az _|exact bQ _|exact ap _|rfl|exact aU _ _|refine aB ?_|exact bR _|refine aY ?_)|refine bX rfl ?_ ?_|exact aV hN _ rfl rfl rfl|exact aW hN _ rfl rfl rfl|exact aC hN _ rfl rfl rfl (Or.inr rfl)|(refine aX hN _ rfl rfl (by first|exact Or.inr rfl|exact Or.inl rfl) ?_;first|exact aH _|exact aI _)|refine aD hN rfl ?_|refine aE hN rfl rfl ?_|exact aA hN _ rfl rfl|exact aF hN rfl rfl rfl rfl|(with_reducible first|refine aT ?_|refine bJ ?_|refine bK ?_|refine bL ?_|refine bH ?_|refine bI ?_))))
   all_goals first|rfl|(rw [show k = bs.length by omega];rfl)
theorem uc (d : Dc) (most : Int) (hm : 1 ≤ most ∧ most ≤ 16) : dJ Try.prog 34 (fun ν=>[.ad (ν 0) 0,.c (.int .i64 most)]) [diE d] [diE (g7 d most 6).2] [] (fun _=>paA (g7 d most 6).1):=by
 have hb:=d.bnd hm.1
 (refine eu aP Try.func34 rfl rfl (fun _=>by kernel_rfl) rfl rfl rfl rfl (by first|exact im _|exact fY (j:=0) (by simp) (by simp [Ent.kind])|exact fZ (j:=0) (by simp) (by simp [Ent.kind])|exact er rfl|exact fa|exact io _) fun hp0 ν hX hN=>?_;simp only [cS,Nat.reduceAdd])
 (repeat' (first|(with_reducible first|(refine hK _ _ ?_;clear hK K)|(refine aa _ ?_;clear aa K)|(refine ab _ _ _ ?_;clear ab K)|(refine ac _ _ ?_;clear ac K)|refine bm ?_|refine ce ?_|refine bd ?_|refine ax ?_|refine au ?_|refine cf ?_|refine aK ?_|refine be ?_|refine cg ?_|refine bf ?_|refine bg rfl ?_|refine bn ?_|refine bh ?_|refine ch ?_|refine bi ?_|refine aJ ?_|refine n_k ?_|refine bj ?_|(refine ae ?_;clear ae X af Y)|(refine af ?_;clear ae X af Y))|(with_reducible refine bt ?_;first|refine bp rfl ?_|refine br rfl ?_)|(with_reducible refine bA ?_;first|refine ay rfl rfl rfl rfl ?_|refine aM rfl rfl rfl ?_|refine bw rfl rfl rfl rfl ?_)|(with_reducible refine cx ?_;first|refine bM rfl rfl rfl rfl ?_|refine ci rfl rfl rfl ?_|refine cD rfl rfl rfl rfl ?_|refine cE hN (by apply Exists.intro;apply And.intro;(repeat' (first|apply FtI.nil|apply FI.nil|apply FI.cons|apply FtI.cons));kernel_rfl) ?_)|((first|(with_reducible first|refine bu rfl rfl fun K hK=>?_|refine cB rfl rfl fun K ab=>?_|refine bv rfl rfl fun K aa=>?_|refine cC rfl rfl fun K ac=>?_|refine aL fun X Y ae af=>?_|refine aN ?_));simp (disch:=first|decide|omega|(simp only [List.length_cons,List.length_nil];omega)) only [go_sem,beq_self_eq_true,↓aj,↓ak hN,am hN,reduceIte,reduceCtorEq,Nat.reduceAdd,Nat.reduceLT,Nat.reduceLeDiff,Nat.reduceEqDiff,Nat.reduceSub])|(with_reducible refine And.intro (fun h=>?_) (fun h=>?_) <;> try (exfalso;omega))|(with_reducible refine bo aP hN rfl ?_ ?_;kernel_rfl)|(with_reducible refine bO aP hN rfl ?_ ?_ ?_ ?_;(kernel_rfl);(kernel_rfl);(kernel_rfl))|(refine dD (ir d most (by omega)) hN 0 rfl rfl rfl rfl rfl ?_ ?_ ?_ ?_;(focus (simp [bB,AV.names];done));(focus (intro ν' hν;(repeat' (first|exact ArgMs.nil|refine ArgMs.cons ?_ ?_|exact gJ hν|exact gK hν|exact jx _|exact i7 (by first|exact aS _|exact aQ _|exact aR rfl rfl rfl) rfl|(refine gL hN rfl ?_ (by decide);first|exact aH _|exact aI _)|refine ew ?_));done));(focus (first|exact Or.inr ⟨rfl,rfl,fun _=>rfl⟩|exact Or.inl (by simp [bB,AV.names]))))|(with_reducible first|exact aq|refine ao ?_ ?_|exact cn _|refine aZ ?_|exact aS _|exact bG _ _|refine bF ?_|exact aQ _)|exact a8 hN rfl rfl|(refine bE hN rfl ?_;first|exact aH _|exact aI _)|exact aR rfl rfl rfl|(simp only [bC,List.map_nil])|(with_reducible refine cc ?_)|(simp (disch:=first|decide|omega|(simp only [List.length_cons,List.length_nil];omega)) only [bC,List.map_cons,List.map_nil,am hN,List.set_cons_zero,List.set_cons_succ])|(with_reducible refine And.intro ?_ ?_)|(refine ah ?_;omega)|(exact bz hN (by decide))))
 have hm2:=hm.2
 generalize hn : 1 + d.val most = n at *
 have hn0 : 1 ≤ n ∧ n ≤ 16:=by omega
 have hG : g7 d most 6 = fu n 6 n.toNat d.nxt [] [] []:=by unfold g7;rw [hn]
 generalize g7 d most 6 = G at *
 (refine cr (fun (x : Nat × Dc × List Int × List (List Int) × List Int)=>(tmL [(7,.c (.int .i64 x.1)),(6,.ad (ν 2) 0),(5,.c (.int .i64 n)),(4,.ad (ν 1) 0),(0,.ad (ν 0) 0)],hpL hp0 ν [diE x.2.1,.box [.c .nul,.c .nul,.c .nul],.box [.sl (ν 3),.sl (ν 4),.sl (ν 5)],.arr 2 .may (.I x.2.2.1),.arr 27 .may (.R x.2.2.2.1),.arr 2 .may (.I x.2.2.2.2)])) (fun (x : Nat × Dc × List Int × List (List Int) × List Int)=>((x.1 : Int) ≤ n ∧ x.2.2.1.length = x.1 ∧ x.2.2.2.1.length = x.1 ∧ x.2.2.2.2.length = x.1) ∧ fu n 6 (n.toNat - x.1) x.2.1 x.2.2.1 x.2.2.2.1 x.2.2.2.2 = G) (fun (x : Nat × Dc × List Int × List (List Int) × List Int)=>n.toNat - x.1) ⟨(0,d.nxt,[],[],[]),?_,bZ hX hN [] ?_ ?_⟩ ?_;(repeat' (first|(with_reducible first|exact bS _|exact bT|exact bU|refine bV ?_ ?_|refine bW ?_ ?_|exact az _|exact bQ _|exact ap _|rfl|exact aU _ _|refine aB ?_|exact bR _|refine aY ?_)|refine bX rfl ?_ ?_|exact aV hN _ rfl rfl rfl|exact aW hN _ rfl rfl rfl|exact aC hN _ rfl rfl rfl (Or.inr rfl)|(refine aX hN _ rfl rfl (by first|exact Or.inr rfl|exact Or.inl rfl) ?_;first|exact aH _|exact aI _)|refine aD hN rfl ?_|refine aE hN rfl rfl ?_|exact aA hN _ rfl rfl|exact aF hN rfl rfl rfl rfl|(with_reducible first|refine aT ?_|refine bJ ?_|refine bK ?_|refine bL ?_|refine bH ?_|refine bI ?_)));(try (any_goals (first|(with_reducible rfl)|(refine ah ?_;omega)))))
 · exact ⟨⟨by omega,rfl,rfl,rfl⟩,hG.symm⟩
 rintro ⟨v,dd,o,xx,p⟩ ⟨⟨hv,h1,h2,h3⟩,hGo⟩
 simp only at hv h1 h2 h3 hGo
 dsimp only
 have hb3:=dd.bnd (n:=3) (by omega)
 (repeat' (first|(with_reducible first|(refine hK _ _ ?_;clear hK K)|(refine aa _ ?_;clear aa K)|(refine ab _ _ _ ?_;clear ab K)|(refine ac _ _ ?_;clear ac K)|refine bm ?_|refine ce ?_|refine bd ?_|refine ax ?_|refine au ?_|refine cf ?_|refine aK ?_|refine be ?_|refine cg ?_|refine bf ?_|refine bg rfl ?_|refine bn ?_|refine bh ?_|refine ch ?_|refine bi ?_|refine aJ ?_|refine n_k ?_|refine bj ?_|(refine ae ?_;clear ae X af Y)|(refine af ?_;clear ae X af Y))|(with_reducible refine bt ?_;first|refine bp rfl ?_|refine br rfl ?_)|(with_reducible refine bA ?_;first|refine ay rfl rfl rfl rfl ?_|refine aM rfl rfl rfl ?_|refine bw rfl rfl rfl rfl ?_)|(with_reducible refine cx ?_;first|refine bM rfl rfl rfl rfl ?_|refine ci rfl rfl rfl ?_|refine cD rfl rfl rfl rfl ?_|refine cE hN (by apply Exists.intro;apply And.intro;(repeat' (first|apply FtI.nil|apply FI.nil|apply FI.cons|apply FtI.cons));kernel_rfl) ?_)|((first|(with_reducible first|refine bu rfl rfl fun K hK=>?_|refine cB rfl rfl fun K ab=>?_|refine bv rfl rfl fun K aa=>?_|refine cC rfl rfl fun K ac=>?_|refine aL fun X Y ae af=>?_|refine aN ?_));simp (disch:=first|decide|omega|(simp only [List.length_cons,List.length_nil];omega)) only [go_sem,beq_self_eq_true,↓aj,↓ak hN,am hN,reduceIte,reduceCtorEq,Nat.reduceAdd,Nat.reduceLT,Nat.reduceLeDiff,Nat.reduceEqDiff,Nat.reduceSub])|(with_reducible refine And.intro (fun h=>?_) (fun h=>?_) <;> try (exfalso;omega))|(with_reducible refine bo aP hN rfl ?_ ?_;kernel_rfl)|(with_reducible refine bO aP hN rfl ?_ ?_ ?_ ?_;(kernel_rfl);(kernel_rfl);(kernel_rfl))|(refine dD (ir dd 3 (by omega)) hN 0 rfl rfl rfl rfl rfl ?_ ?_ ?_ ?_;(focus (simp [bB,AV.names];done));(focus (intro ν' hν;(repeat' (first|exact ArgMs.nil|refine ArgMs.cons ?_ ?_|exact gJ hν|exact gK hν|exact jx _|exact i7 (by first|exact aS _|exact aQ _|exact aR rfl rfl rfl) rfl|(refine gL hN rfl ?_ (by decide);first|exact aH _|exact aI _)|refine ew ?_));done));(focus (first|exact Or.inr ⟨rfl,rfl,fun _=>rfl⟩|exact Or.inl (by simp [bB,AV.names]))))|(with_reducible first|exact aq|refine ao ?_ ?_|exact cn _|refine aZ ?_|exact aS _|exact bG _ _|refine bF ?_|exact aQ _)|exact a8 hN rfl rfl|(refine bE hN rfl ?_;first|exact aH _|exact aI _)|exact aR rfl rfl rfl|(simp only [bC,List.map_nil])|(with_reducible refine cc ?_)|(simp (disch:=first|decide|omega|(simp only [List.length_cons,List.length_nil];omega)) only [bC,List.map_cons,List.map_nil,am hN,List.set_cons_zero,List.set_cons_succ])|(with_reducible refine And.intro ?_ ?_)|(refine ah ?_;omega)|(exact bz hN (by decide))))
 · have hvn : (v : Int) < n:=by assumption
   have hgo1 : n.toNat - v = (n.toNat - (v + 1)) + 1:=by omega
   rw [hgo1,fu] at hGo
   generalize hR : eg n (1 + dd.val 3).toNat dd.nxt [] = R at hGo
   (refine cr (fun (z : Nat × Dc × List Int)=>(tmL [(9,.c (.int .i64 z.1)),(8,.c (.I z.2.2)),(7,.c (.int .i64 v)),(6,.ad (ν 2) 0),(5,.c (.int .i64 n)),(4,.ad (ν 1) 0),(0,.ad (ν 0) 0)],hpL hp0 ν [diE z.2.1,.box [.c .nul,.c .nul,.c .nul],.box [.sl (ν 3),.sl (ν 4),.sl (ν 5)],.arr 2 .may (.I o),.arr 27 .may (.R xx),.arr 2 .may (.I p)])) (fun (z : Nat × Dc × List Int)=>(z.2.2.length + z.1 ≤ 3 ∧ cO z.2.2 n) ∧ eg n z.1 z.2.1 z.2.2 = R) (fun (z : Nat × Dc × List Int)=>z.1) ⟨((1 + dd.val 3).toNat,dd.nxt,[]),?_,bZ hX hN [] ?_ ?_⟩ ?_;(repeat' (first|(with_reducible first|exact bS _|exact bT|exact bU|refine bV ?_ ?_|refine bW ?_ ?_|exact az _|exact bQ _|exact ap _|rfl|exact aU _ _|refine aB ?_|exact bR _|refine aY ?_)|refine bX rfl ?_ ?_|exact aV hN _ rfl rfl rfl|exact aW hN _ rfl rfl rfl|exact aC hN _ rfl rfl rfl (Or.inr rfl)|(refine aX hN _ rfl rfl (by first|exact Or.inr rfl|exact Or.inl rfl) ?_;first|exact aH _|exact aI _)|refine aD hN rfl ?_|refine aE hN rfl rfl ?_|exact aA hN _ rfl rfl|exact aF hN rfl rfl rfl rfl|(with_reducible first|refine aT ?_|refine bJ ?_|refine bK ?_|refine bL ?_|refine bH ?_|refine bI ?_)));(try (any_goals (first|(with_reducible rfl)|(refine ah ?_;omega)))))
   · exact ⟨⟨by simp;omega,jE n⟩,hR⟩
   rintro ⟨m,de,row⟩ ⟨⟨hm1,hm2⟩,hRo⟩
   simp only at hm1 hm2 hRo
   dsimp only
   have hbn:=de.bnd (n:=n) (by omega)
   have hR2:=R.2.bnd (n:=2) (by omega)
   have hR3:=R.2.nxt.bnd (n:=6) (by omega)
   have hs256 : cO row 256:=fun k hk=>by have:=hm2 k hk;exact ⟨this.1,by omega,this.2.2⟩
   (repeat' (first|(with_reducible first|(refine hK _ _ ?_;clear hK K)|(refine aa _ ?_;clear aa K)|(refine ab _ _ _ ?_;clear ab K)|(refine ac _ _ ?_;clear ac K)|refine bm ?_|refine ce ?_|refine bd ?_|refine ax ?_|refine au ?_|refine cf ?_|refine aK ?_|refine be ?_|refine cg ?_|refine bf ?_|refine bg rfl ?_|refine bn ?_|refine bh ?_|refine ch ?_|refine bi ?_|refine aJ ?_|refine n_k ?_|refine bj ?_|(refine ae ?_;clear ae X af Y)|(refine af ?_;clear ae X af Y))|(with_reducible refine bt ?_;first|refine bp rfl ?_|refine br rfl ?_)|(with_reducible refine bA ?_;first|refine ay rfl rfl rfl rfl ?_|refine aM rfl rfl rfl ?_|refine bw rfl rfl rfl rfl ?_)|(with_reducible refine cx ?_;first|refine bM rfl rfl rfl rfl ?_|refine ci rfl rfl rfl ?_|refine cD rfl rfl rfl rfl ?_|refine cE hN (by apply Exists.intro;apply And.intro;(repeat' (first|apply FtI.nil|apply FI.nil|apply FI.cons|apply FtI.cons));kernel_rfl) ?_)|((first|(with_reducible first|refine bu rfl rfl fun K hK=>?_|refine cB rfl rfl fun K ab=>?_|refine bv rfl rfl fun K aa=>?_|refine cC rfl rfl fun K ac=>?_|refine aL fun X Y ae af=>?_|refine aN ?_));simp (disch:=first|decide|omega|(simp only [List.length_cons,List.length_nil];omega)) only [go_sem,beq_self_eq_true,↓aj,↓ak hN,am hN,reduceIte,reduceCtorEq,Nat.reduceAdd,Nat.reduceLT,Nat.reduceLeDiff,Nat.reduceEqDiff,Nat.reduceSub])|(with_reducible refine And.intro (fun h=>?_) (fun h=>?_) <;> try (exfalso;omega))|(with_reducible refine bo aP hN rfl ?_ ?_;kernel_rfl)|(with_reducible refine bO aP hN rfl ?_ ?_ ?_ ?_;(kernel_rfl);(kernel_rfl);(kernel_rfl))|(refine dD (ir de n (by omega)) hN 0 rfl rfl rfl rfl rfl ?_ ?_ ?_ ?_;(focus (simp [bB,AV.names];done));(focus (intro ν' hν;(repeat' (first|exact ArgMs.nil|refine ArgMs.cons ?_ ?_|exact gJ hν|exact gK hν|exact jx _|exact i7 (by first|exact aS _|exact aQ _|exact aR rfl rfl rfl) rfl|(refine gL hN rfl ?_ (by decide);first|exact aH _|exact aI _)|refine ew ?_));done));(focus (first|exact Or.inr ⟨rfl,rfl,fun _=>rfl⟩|exact Or.inl (by simp [bB,AV.names]))))|(refine gZ (rZ row [de.val n] hs256 (jF (by omega) (by omega))) hN 6 ?_ rfl rfl rfl ?_;focus ((repeat' (first|(with_reducible first|exact aq|refine ao ?_ ?_|exact cn _|refine aZ ?_|exact aS _|exact bG _ _|refine bF ?_|exact aQ _)|exact a8 hN rfl rfl|(refine bE hN rfl ?_;first|exact aH _|exact aI _)|exact aR rfl rfl rfl));done))|(refine dD (ir de 2 (by omega)) hN 0 rfl rfl rfl rfl rfl ?_ ?_ ?_ ?_;(focus (simp [bB,AV.names];done));(focus (intro ν' hν;(repeat' (first|exact ArgMs.nil|refine ArgMs.cons ?_ ?_|exact gJ hν|exact gK hν|exact jx _|exact i7 (by first|exact aS _|exact aQ _|exact aR rfl rfl rfl) rfl|(refine gL hN rfl ?_ (by decide);first|exact aH _|exact aI _)|refine ew ?_));done));(focus (first|exact Or.inr ⟨rfl,rfl,fun _=>rfl⟩|exact Or.inl (by simp [bB,AV.names]))))|(refine dD (ir de.nxt 6 (by omega)) hN 0 rfl rfl rfl rfl rfl ?_ ?_ ?_ ?_;(focus (simp [bB,AV.names];done));(focus (intro ν' hν;(repeat' (first|exact ArgMs.nil|refine ArgMs.cons ?_ ?_|exact gJ hν|exact gK hν|exact jx _|exact i7 (by first|exact aS _|exact aQ _|exact aR rfl rfl rfl) rfl|(refine gL hN rfl ?_ (by decide);first|exact aH _|exact aI _)|refine ew ?_));done));(focus (first|exact Or.inr ⟨rfl,rfl,fun _=>rfl⟩|exact Or.inl (by simp [bB,AV.names]))))|(with_reducible first|exact aq|refine ao ?_ ?_|exact cn _|refine aZ ?_|exact aS _|exact bG _ _|refine bF ?_|exact aQ _)|exact a8 hN rfl rfl|(refine bE hN rfl ?_;first|exact aH _|exact aI _)|exact aR rfl rfl rfl|(simp only [bC,List.map_nil])|(with_reducible refine cc ?_)|(simp (disch:=first|decide|omega|(simp only [List.length_cons,List.length_nil];omega)) only [bC,List.map_cons,List.map_nil,am hN,List.set_cons_zero,List.set_cons_succ])|(with_reducible refine And.intro ?_ ?_)|(refine ah ?_;omega)|(exact bz hN (by decide))))
   · have hm0 : 0 < m:=by omega
     have hbl:=jD [de.val n] row
     rw [show m = (m - 1) + 1 by omega,eg] at hRo
     (refine ⟨(m - 1,de.nxt,gg row [de.val n]),⟨?_,?_⟩,bZ hX hN [] ?_ ?_⟩;(try any_goals dsimp only);(repeat' (first|(with_reducible first|exact bS _|exact bT|exact bU|refine bV ?_ ?_|refine bW ?_ ?_|exact az _|exact bQ _|exact ap _|rfl|exact aU _ _|refine aB ?_|exact bR _|refine aY ?_)|refine bX rfl ?_ ?_|exact aV hN _ rfl rfl rfl|exact aW hN _ rfl rfl rfl|exact aC hN _ rfl rfl rfl (Or.inr rfl)|(refine aX hN _ rfl rfl (by first|exact Or.inr rfl|exact Or.inl rfl) ?_;first|exact aH _|exact aI _)|refine aD hN rfl ?_|refine aE hN rfl rfl ?_|exact aA hN _ rfl rfl|exact aF hN rfl rfl rfl rfl|(with_reducible first|refine aT ?_|refine bJ ?_|refine bK ?_|refine bL ?_|refine bH ?_|refine bI ?_)));(try (any_goals (first|(with_reducible rfl)|(refine ah ?_;omega)))))
     exact ⟨⟨by simp at hbl ⊢;omega,jR hm2 (jF hbn.1 hbn.2)⟩,hRo⟩
   · have hm0 : m = 0:=by omega
     subst hm0
     rw [eg] at hRo
     subst hRo
     (refine ⟨(v + 1,de.nxt.nxt,o ++ [de.val 2],xx ++ [row],p ++ [de.nxt.val 6]),⟨?_,?_⟩,bZ hX hN [(3,7),(4,9),(5,11)] ?_ ?_⟩;(try any_goals dsimp only);(repeat' (first|(with_reducible first|exact bS _|exact bT|exact bU|refine bV ?_ ?_|refine bW ?_ ?_|exact az _|exact bQ _|exact ap _|rfl|exact aU _ _|refine aB ?_|exact bR _|refine aY ?_)|refine bX rfl ?_ ?_|exact aV hN _ rfl rfl rfl|exact aW hN _ rfl rfl rfl|exact aC hN _ rfl rfl rfl (Or.inr rfl)|(refine aX hN _ rfl rfl (by first|exact Or.inr rfl|exact Or.inl rfl) ?_;first|exact aH _|exact aI _)|refine aD hN rfl ?_|refine aE hN rfl rfl ?_|exact aA hN _ rfl rfl|exact aF hN rfl rfl rfl rfl|(with_reducible first|refine aT ?_|refine bJ ?_|refine bK ?_|refine bL ?_|refine bH ?_|refine bI ?_)));(try (any_goals (first|(with_reducible rfl)|(refine ah ?_;omega)))))
     exact ⟨⟨by omega,by simp [h1],by simp [h2],by simp [h3]⟩,hGo⟩
 · rw [show n.toNat - v = 0 by omega,fu] at hGo
   subst hGo
   (refine ⟨.inr rfl,_,(by first|exact cY rfl rfl|exact cR hN rfl rfl rfl rfl|exact cM hN rfl rfl rfl rfl rfl|(simp (disch:=first|decide|omega|(simp only [List.length_cons,List.length_nil];omega)) only [cw,cA,cF,cG,go_sem,beq_self_eq_true,↓aj,↓ak hN,am hN,reduceIte,reduceCtorEq,Nat.reduceAdd,Nat.reduceLT,Nat.reduceLeDiff,Nat.reduceEqDiff,Nat.reduceSub];rfl)|rfl),[],_,rfl,?_,rfl,?_⟩;(all_goals try simp only [List.drop,List.take,List.cons_append,List.nil_append,nmL,List.length_cons,List.length_nil,Nat.reduceAdd,List.getD_cons_zero]);(repeat' (first|(with_reducible first|exact bS _|exact bT|exact bU|refine bV ?_ ?_|refine bW ?_ ?_|exact az _|exact bQ _|exact ap _|rfl|exact aU _ _|refine aB ?_|exact bR _|refine aY ?_)|refine bX rfl ?_ ?_|exact aV hN _ rfl rfl rfl|exact aW hN _ rfl rfl rfl|exact aC hN _ rfl rfl rfl (Or.inr rfl)|(refine aX hN _ rfl rfl (by first|exact Or.inr rfl|exact Or.inl rfl) ?_;first|exact aH _|exact aI _)|refine aD hN rfl ?_|refine aE hN rfl rfl ?_|exact aA hN _ rfl rfl|exact aF hN rfl rfl rfl rfl|(with_reducible first|refine aT ?_|refine bJ ?_|refine bK ?_|refine bL ?_|refine bH ?_|refine bI ?_))))
end Go.Proofs.Ytfaefmabjjndeaa
