/-
  The games, the plans that the dice draw.
-/
import Derived.Test.YtiadchinhofieaaGreatZfFc
import Derived.Test.YtiadchinhofieaaGreatZfG3
import Derived.Test.YtiadchinhofieaaGreatZfKf
namespace Go.Proofs.YtiadchinhofieaaGreat
set_option linter.unusedVariables false
set_option linter.unusedSimpArgs false
open Go.RowKit
attribute [local irreducible] aO ck Aw Le
structure Dc where
 bs : List Int
 i : Int
 h : Int
 len : bs.length ≤ 4096
 byt : ∀ j,j < bs.length → 0 ≤ gi bs j ∧ gi bs j ≤ 255
 ok : 0 ≤ i ∧ i ≤ bs.length
def dH (h : Int) : Int:=IntKind.u64.wrap (IntKind.u64.wrap (h * 6364136223846793005) + 1442695040888963407)
def dX (h : Int) : Int:=IntKind.i64.wrap (se .u64 (vZ .u64 (dH h) 33) 16777215)
def Dc.nxt (d : Dc) : Dc:=⟨d.bs,if d.i < d.bs.length then d.i + 1 else d.i,dH d.h,d.len,d.byt,by have:=d.ok;split <;> omega⟩
def Dc.val (d : Dc) (n : Int) : Int:=(if d.i < d.bs.length then IntKind.i64.wrap (dX d.h + IntKind.i64.wrap (gi d.bs d.i.toNat)) else dX d.h).tmod n
abbrev diE (d : Dc) : Ent:=.box [.c (.Y d.bs),.c (.int .i64 d.i),.c (.int .u64 d.h)]
theorem yB (h : Int) : 0 ≤ dX h ∧ dX h ≤ 16777215:=by
 have h1 : ∀ a : Int,0 ≤ se .u64 a 16777215 ∧ se .u64 a 16777215 ≤ 16777215:=fun a=>by
  unfold se
  have h2 : (BitVec.ofInt IntKind.u64.bits a &&& BitVec.ofInt IntKind.u64.bits 16777215).toNat ≤ 16777215:=by
   rw [BitVec.toNat_and]
   exact Nat.le_trans Nat.and_le_right (by decide)
  generalize (BitVec.ofInt IntKind.u64.bits a &&& BitVec.ofInt IntKind.u64.bits 16777215).toNat = m at *
  rw [show IntKind.u64.wrap (m : Int) = m by simp [IntKind.wrap,IntKind.bits,IntKind.signed];omega]
  omega
 obtain ⟨h2,h3⟩:=h1 (vZ .u64 (dH h) 33)
 unfold dX
 rw [sG (by omega)]
 exact ⟨h2,h3⟩
theorem Dc.bnd (d : Dc) {n : Int} (hn : 1 ≤ n) : 0 ≤ d.val n ∧ d.val n < n:=by
 have hx:=yB d.h
 have hv : 0 ≤ (if d.i < d.bs.length then IntKind.i64.wrap (dX d.h + IntKind.i64.wrap (gi d.bs d.i.toNat)) else dX d.h):=by
  split
  · rename_i h
    have hb:=d.byt d.i.toNat (by have:=d.ok;omega)
    rw [sG (n:=gi d.bs d.i.toNat) (by omega),sG (by omega)]
    omega
  · exact hx.1
 unfold Dc.val
 rw [Int.tmod_eq_emod_of_nonneg hv]
 exact ⟨Int.emod_nonneg _ (by omega),Int.emod_lt_of_pos _ (by omega)⟩
theorem iK (d : Dc) (n : Int) (hn : 1 ≤ n ∧ n ≤ 1125899906842624) : dx Tryz.prog 15 (fun ν=>[.ad (ν 0) 0,.c (.int .i64 n)]) [diE d] [diE d.nxt] [] (fun _=>.c (.int .i64 (d.val n))):=by
 obtain ⟨bs,i,h0,hl,hb,hi⟩:=d
 (refine fC ap Tryz.func15 rfl rfl (fun _=>by kernel_rfl) rfl rfl rfl rfl (by first|exact jv _|exact ic (j:=0) (by simp) (by simp [Ent.kind])|exact ig (j:=0) (by simp) (by simp [Ent.kind])|exact fB rfl|exact gn|exact jw _) fun hp0 ν hX hN=>?_;simp only [bU,Nat.reduceAdd])
 (repeat' (first|(with_reducible first|(apply hK;clear hK K)|refine stZ ?_|refine aD rfl ?_|((first|apply ae|apply af);clear ae X af Y))|(with_reducible refine aG ?_;first|refine aE rfl ?_|refine aF rfl ?_)|(with_reducible refine ba ?_;refine bd hN ?_)|((with_reducible first|((first|refine aJ ?_|refine bf ?_|refine aK ?_|refine bg ?_);intro K hK)|(refine am ?_;intro X Y ae af)|refine ao ?_);simp (disch:=first|decide|omega|(simp only [List.length_cons,List.length_nil];omega)) only [go_sem,↓aj hN,ak hN,reduceIte,reduceCtorEq,Nat.reduceAdd,Nat.reduceLT,Nat.reduceLeDiff,Nat.reduceEqDiff,Nat.reduceSub])|(with_reducible refine And.intro (fun h=>?_) (fun h=>?_) <;> try (exfalso;omega))|(with_reducible refine aI ap hN ?_)|(with_reducible refine aC ap hN ?_)|(with_reducible refine And.intro ?_ ?_)|(refine ah ?_;omega)|(exact aH hN (by decide))))
 · (refine ⟨.inr rfl,_,(by first|exact co rfl rfl|exact ce hN rfl rfl rfl rfl|exact bZ hN rfl rfl rfl rfl rfl|(simp (disch:=first|decide|omega|(simp only [List.length_cons,List.length_nil];omega)) only [bI,bJ,bK,bM,go_sem,beq_self_eq_true,↓aB,↓aj hN,ak hN,reduceIte,reduceCtorEq,Nat.reduceAdd,Nat.reduceLT,Nat.reduceLeDiff,Nat.reduceEqDiff,Nat.reduceSub];rfl)|rfl),[],_,rfl,?_,rfl,?_⟩;(all_goals try simp only [List.drop,List.take,List.cons_append,List.nil_append,nmL,List.length_cons,List.length_nil,Nat.reduceAdd,List.getD_cons_zero]);(repeat' (first|(with_reducible first|exact clZ|refine bn ?_ ?_|refine bo ?_ ?_|rfl|refine suZ ?_)|refine bp rfl ?_ ?_|exact aR hN _ rfl rfl rfl|exact aS hN _ rfl rfl rfl|exact ay hN _ rfl rfl rfl (Or.inr rfl)|(refine aT hN _ rfl rfl (by first|exact Or.inr rfl|exact Or.inl rfl) ?_;first|exact aU _|exact aV _)|refine az hN rfl ?_|refine aA hN rfl rfl ?_|exact ax hN _ rfl rfl|exact au hN rfl rfl rfl rfl|(with_reducible first|refine stZ ?_|refine aQ ?_))))
   all_goals simp [Dc.nxt,Dc.val,dX,dH, *]
 · (refine ⟨.inr rfl,_,(by first|exact co rfl rfl|exact ce hN rfl rfl rfl rfl|exact bZ hN rfl rfl rfl rfl rfl|(simp (disch:=first|decide|omega|(simp only [List.length_cons,List.length_nil];omega)) only [bI,bJ,bK,bM,go_sem,beq_self_eq_true,↓aB,↓aj hN,ak hN,reduceIte,reduceCtorEq,Nat.reduceAdd,Nat.reduceLT,Nat.reduceLeDiff,Nat.reduceEqDiff,Nat.reduceSub];rfl)|rfl),[],_,rfl,?_,rfl,?_⟩;(all_goals try simp only [List.drop,List.take,List.cons_append,List.nil_append,nmL,List.length_cons,List.length_nil,Nat.reduceAdd,List.getD_cons_zero]);(repeat' (first|(with_reducible first|exact clZ|refine bn ?_ ?_|refine bo ?_ ?_|rfl|refine suZ ?_)|refine bp rfl ?_ ?_|exact aR hN _ rfl rfl rfl|exact aS hN _ rfl rfl rfl|exact ay hN _ rfl rfl rfl (Or.inr rfl)|(refine aT hN _ rfl rfl (by first|exact Or.inr rfl|exact Or.inl rfl) ?_;first|exact aU _|exact aV _)|refine az hN rfl ?_|refine aA hN rfl rfl ?_|exact ax hN _ rfl rfl|exact au hN rfl rfl rfl rfl|(with_reducible first|refine stZ ?_|refine aQ ?_))))
   all_goals simp [Dc.nxt,Dc.val,dX,dH, *]
end Go.Proofs.YtiadchinhofieaaGreat
namespace Go.Proofs.YtiadchinhofieaaGreat
set_option linter.unusedVariables false
set_option linter.unusedSimpArgs false
open Go.RowKit
attribute [local irreducible] aO ck Aw Le
def fD : List Int → Int → List Int
 | [], x => [x]
 | y :: ys, x => if y < x then y :: fD ys x else if y = x then y :: ys else x :: y :: ys
theorem pi {x z : Int} : ∀ {xs : List Int},z ∈ fD xs x ↔ z = x ∨ z ∈ xs:=by
 intro xs
 induction xs with
 | nil => simp [fD]
 | cons y ys ih =>
   unfold fD
   split
   · rw [List.mem_cons,ih,List.mem_cons]
     exact ⟨fun h=>h.elim (fun h=>.inr (.inl h)) fun h=>h.elim .inl fun h=>.inr (.inr h),fun h=>h.elim (fun h=>.inr (.inl h)) fun h=>h.elim .inl fun h=>.inr (.inr h)⟩
   · split
     · rename_i _ h;subst h
       exact ⟨fun h=>.inr h,fun h=>h.elim (fun h=>by rw [h];exact List.mem_cons_self) id⟩
     · rw [List.mem_cons]
theorem uy (x : Int) : ∀ xs : List Int,(fD xs x).length ≤ xs.length + 1:=by
 intro xs
 induction xs with
 | nil => simp [fD]
 | cons y ys ih =>
   unfold fD
   split
   · simp;omega
   · split
     · simp
     · simp
theorem nH {x : Int} : ∀ {xs : List Int} {k : Nat},k ≤ xs.length → (∀ j,j < k → gi xs j < x) → (k < xs.length → ¬ gi xs k < x) → fD xs x = if k < xs.length ∧ gi xs k = x then xs else xs.take k ++ x :: xs.drop k:=by
 intro xs
 induction xs with
 | nil =>
   intro k hk _ _
   have : k = 0:=by simpa using hk
   subst this;rfl
 | cons y ys ih =>
   intro k hk h1 h2
   cases k with
   | zero =>
     have h3 : ¬ y < x:=h2 (by simp)
     unfold fD
     rw [if_neg h3]
     by_cases h4 : y = x
     · rw [if_pos h4,if_pos ⟨by simp,h4⟩]
     · rw [if_neg h4,if_neg fun h=>h4 h.2];rfl
   | succ k =>
     have h3 : y < x:=h1 0 (by omega)
     unfold fD
     rw [if_pos h3,ih (k:=k) (by simpa using hk) (fun j hj=>h1 (j + 1) (by omega)) (fun h=>h2 (by simpa using h))]
     by_cases h5 : k < ys.length ∧ gi ys k = x
     · rw [if_pos h5,if_pos ⟨by simpa using h5.1,h5.2⟩]
     · rw [if_neg h5,if_neg fun h=>h5 ⟨by simpa using h.1,h.2⟩];rfl
theorem eC {y m : Int} {ys : List Int} : cc (y :: ys) m ↔ (0 ≤ y ∧ y < m) ∧ cc ys m ∧ ∀ z,z ∈ ys → y < z:=by
 constructor
 · intro h
   have h0:=h 0 (by simp)
   refine ⟨⟨h0.1,h0.2.1⟩,fun k hk=>?_,fun z hz=>?_⟩
   · have:=h (k + 1) (by simpa using hk)
     refine ⟨this.1,this.2.1,fun hk0=>?_⟩
     have h2:=this.2.2 (by omega)
     obtain ⟨j,rfl⟩ : ∃ j,k = j + 1:=⟨k - 1,by omega⟩
     exact h2
   · obtain ⟨j,hj,e⟩:=cR hz
     have key : ∀ j,j < ys.length → y < gi ys j:=by
      intro j
      induction j with
      | zero => intro hj; exact (h 1 (by simp; omega)).2.2 (by omega)
      | succ j ih =>
        intro hj
        have:=ih (by omega)
        have h2:=(h (j + 2) (by simp;omega)).2.2 (by omega)
        have h3 : gi ys j < gi ys (j + 1):=h2
        omega
     rw [← e];exact key j hj
 · rintro ⟨⟨h1,h2⟩,h3,h4⟩ k hk
   cases k with
   | zero => exact ⟨h1, h2, fun h => by omega⟩
   | succ k =>
     have hk' : k < ys.length:=by simpa using hk
     obtain ⟨a,b,c⟩:=h3 k hk'
     refine ⟨a,b,fun _=>?_⟩
     cases k with
     | zero => exact h4 _ (cD hk')
     | succ k => exact c (by omega)
theorem qM {x m : Int} (h0 : 0 ≤ x) (h1 : x < m) : ∀ {xs : List Int},cc xs m → cc (fD xs x) m:=by
 intro xs
 induction xs with
 | nil => intro _; exact eC.2 ⟨⟨h0, h1⟩, fun k hk => absurd hk (Nat.not_lt_zero _), fun z hz => by simp at hz⟩
 | cons y ys ih =>
   intro h
   obtain ⟨a,b,c⟩:=eC.1 h
   unfold fD
   split
   · refine eC.2 ⟨a,ih b,fun z hz=>?_⟩
     rcases pi.1 hz with rfl|hz
     · assumption
     · exact c z hz
   · split
     · exact h
     · refine eC.2 ⟨⟨h0,h1⟩,h,fun z hz=>?_⟩
       rcases List.mem_cons.1 hz with rfl|hz
       · omega
       · have:=c z hz;omega
theorem uz (xs : List Int) (x : Int) (hl : xs.length ≤ 65536) : aO Tryz.prog 32 [.c (.I xs),.c (.int .i64 x)] [] (fun _=>.c (.I (fD xs x))):=by
 (refine bj ap Tryz.func32 rfl rfl (by kernel_rfl) fun hp0 ν hX hN=>?_;simp only [bU,Nat.reduceAdd])
 (repeat' (first|(with_reducible first|(apply hK;clear hK K)|refine stZ ?_|refine aD rfl ?_|((first|apply ae|apply af);clear ae X af Y))|(with_reducible refine aG ?_;first|refine aE rfl ?_|refine aF rfl ?_)|(with_reducible refine aX ?_;first|refine aL rfl rfl rfl rfl ?_|refine aW rfl rfl rfl ?_|refine bm rfl rfl rfl rfl ?_)|((first|(with_reducible first|((first|refine aJ ?_|refine aK ?_);intro K hK)|(refine am ?_;intro X Y ae af)|refine ao ?_)|(with_reducible refine aX ?_;refine aM rfl rfl fun X Y ae af=>?_));simp (disch:=first|decide|omega|(simp only [List.length_cons,List.length_nil];omega)) only [go_sem,↓aj hN,ak hN,reduceIte,reduceCtorEq,Nat.reduceAdd,Nat.reduceLT,Nat.reduceLeDiff,Nat.reduceEqDiff,Nat.reduceSub])|(with_reducible refine And.intro (fun h=>?_) (fun h=>?_) <;> try (exfalso;omega))|(with_reducible refine aI ap hN ?_)|(with_reducible refine And.intro ?_ ?_)|(refine ah ?_;omega)|(exact aH hN (by decide))))
 (refine bN (fun (k : Nat)=>(tmL [(5,.c (.int .i64 k)),(0,.c (.I xs)),(1,.c (.int .i64 x))],hpL hp0 ν [])) (fun (k : Nat)=>k ≤ xs.length ∧ ∀ j,j < k → gi xs j < x) (fun (k : Nat)=>xs.length - k) ⟨0,?_,bu hX hN [] ?_ ?_⟩ ?_;(repeat' (first|(with_reducible first|exact clZ|refine bn ?_ ?_|refine bo ?_ ?_|rfl|refine suZ ?_)|refine bp rfl ?_ ?_|exact aR hN _ rfl rfl rfl|exact aS hN _ rfl rfl rfl|exact ay hN _ rfl rfl rfl (Or.inr rfl)|(refine aT hN _ rfl rfl (by first|exact Or.inr rfl|exact Or.inl rfl) ?_;first|exact aU _|exact aV _)|refine az hN rfl ?_|refine aA hN rfl rfl ?_|exact ax hN _ rfl rfl|exact au hN rfl rfl rfl rfl|(with_reducible first|refine stZ ?_|refine aQ ?_)));(try (any_goals (first|(with_reducible rfl)|(refine ah ?_;omega)))))
 · exact ⟨Nat.zero_le _,fun j hj=>absurd hj (Nat.not_lt_zero _)⟩
 rintro k ⟨hk,ho⟩
 have hdr : List.drop (Int.toNat 0) (List.take k xs) = xs.take k:=rfl
 have hdl : List.drop k (List.take xs.length xs) = xs.drop k:=by rw [List.take_length]
 have hl1 : (xs.take k).length = k:=by simp;omega
 have hl2 : (xs.drop k).length = xs.length - k:=by simp
 (repeat' (first|(with_reducible first|(apply hK;clear hK K)|refine stZ ?_|refine aD rfl ?_|((first|apply ae|apply af);clear ae X af Y))|(with_reducible refine aG ?_;first|refine aE rfl ?_|refine aF rfl ?_)|(with_reducible refine aX ?_;first|refine aL rfl rfl rfl rfl ?_|refine aW rfl rfl rfl ?_|refine bm rfl rfl rfl rfl ?_)|((first|(with_reducible first|((first|refine aJ ?_|refine aK ?_);intro K hK)|(refine am ?_;intro X Y ae af)|refine ao ?_)|(with_reducible refine aX ?_;refine aM rfl rfl fun X Y ae af=>?_));simp (disch:=first|decide|omega|(simp only [List.length_cons,List.length_nil];omega)) only [go_sem,↓aj hN,ak hN,reduceIte,reduceCtorEq,Nat.reduceAdd,Nat.reduceLT,Nat.reduceLeDiff,Nat.reduceEqDiff,Nat.reduceSub])|(with_reducible refine And.intro (fun h=>?_) (fun h=>?_) <;> try (exfalso;omega))|(with_reducible refine aI ap hN ?_)|(refine bW (jA ?_ ?_) ?_ rfl (fun _=>rfl) ?_)|(with_reducible first|exact bt|refine bc ?_ ?_|exact cm _|refine bF ?_|exact bB _|exact bT _ _|refine bS ?_|exact bz _)|exact bG hN rfl rfl|(refine bR hN rfl ?_;first|exact aU _|exact aV _)|exact bA rfl rfl rfl|(simp only [aZ,List.map_nil])|(with_reducible refine aY ?_)|(with_reducible refine And.intro ?_ ?_)|(refine ah ?_;omega)|(exact aH hN (by decide))))
 all_goals try simp only [hdr,hdl]
 all_goals try (refine ah ?_;omega)
 · (refine ⟨k + 1,⟨?_,?_⟩,bu hX hN [] ?_ ?_⟩;(try any_goals dsimp only);(repeat' (first|(with_reducible first|exact clZ|refine bn ?_ ?_|refine bo ?_ ?_|rfl|refine suZ ?_)|refine bp rfl ?_ ?_|exact aR hN _ rfl rfl rfl|exact aS hN _ rfl rfl rfl|exact ay hN _ rfl rfl rfl (Or.inr rfl)|(refine aT hN _ rfl rfl (by first|exact Or.inr rfl|exact Or.inl rfl) ?_;first|exact aU _|exact aV _)|refine az hN rfl ?_|refine aA hN rfl rfl ?_|exact ax hN _ rfl rfl|exact au hN rfl rfl rfl rfl|(with_reducible first|refine stZ ?_|refine aQ ?_)));(try (any_goals (first|(with_reducible rfl)|(refine ah ?_;omega)))))
   exact ⟨by omega,dy ho (by assumption)⟩
 · (refine fA hN [] (by decide) (.inr rfl) (by first|exact co rfl rfl|exact ce hN rfl rfl rfl rfl|exact bZ hN rfl rfl rfl rfl rfl|(simp (disch:=first|decide|omega|(simp only [List.length_cons,List.length_nil];omega)) only [bI,bJ,bK,bM,go_sem,beq_self_eq_true,↓aB,↓aj hN,ak hN,reduceIte,reduceCtorEq,Nat.reduceAdd,Nat.reduceLT,Nat.reduceLeDiff,Nat.reduceEqDiff,Nat.reduceSub];rfl)|rfl) ?_ fun νs hνs=>?_;(repeat' (first|exact Gone.nil|(refine Gone.cons rfl rfl ?_ ?_)|(with_reducible refine dS ?_)|(with_reducible refine dR ?_)|(with_reducible refine SVs.cons ?_ ?_)|(with_reducible exact SVs.nil)|(simp only [List.drop,List.take])|(simp (disch:=first|decide|omega) only [↓aB,reduceIte,reduceCtorEq,Nat.reduceEqDiff])|(with_reducible exact i4 _)|(with_reducible exact dP _)|(exact dQ rfl rfl rfl)|(exact eJ 0 (by simp) rfl rfl)|(refine fy hN rfl (dT hN (by decide)) ?_)|(with_reducible refine fx ?_)|(with_reducible rfl)|(with_reducible refine i6 ?_)|(with_reducible refine i7 ?_)|(with_reducible refine i8 ?_)|(with_reducible refine iN ?_)|(with_reducible refine eK ?_)|(refine ah ?_;omega))))
   rw [nH hk ho (fun _=>by assumption),if_pos ⟨by omega,by assumption⟩]
 · have hne : ¬ gi xs k = x:=beq_eq_false_iff_ne.1 (by assumption)
   (refine fA hN [] (by decide) (.inr rfl) (by first|exact co rfl rfl|exact ce hN rfl rfl rfl rfl|exact bZ hN rfl rfl rfl rfl rfl|(simp (disch:=first|decide|omega|(simp only [List.length_cons,List.length_nil];omega)) only [bI,bJ,bK,bM,go_sem,beq_self_eq_true,↓aB,↓aj hN,ak hN,reduceIte,reduceCtorEq,Nat.reduceAdd,Nat.reduceLT,Nat.reduceLeDiff,Nat.reduceEqDiff,Nat.reduceSub];rfl)|rfl) ?_ fun νs hνs=>?_;(repeat' (first|exact Gone.nil|(refine Gone.cons rfl rfl ?_ ?_)|(with_reducible refine dS ?_)|(with_reducible refine dR ?_)|(with_reducible refine SVs.cons ?_ ?_)|(with_reducible exact SVs.nil)|(simp only [List.drop,List.take])|(simp (disch:=first|decide|omega) only [↓aB,reduceIte,reduceCtorEq,Nat.reduceEqDiff])|(with_reducible exact i4 _)|(with_reducible exact dP _)|(exact dQ rfl rfl rfl)|(exact eJ 0 (by simp) rfl rfl)|(refine fy hN rfl (dT hN (by decide)) ?_)|(with_reducible refine fx ?_)|(with_reducible rfl)|(with_reducible refine i6 ?_)|(with_reducible refine i7 ?_)|(with_reducible refine i8 ?_)|(with_reducible refine iN ?_)|(with_reducible refine eK ?_)|(refine ah ?_;omega))))
   rw [nH hk ho (fun _=>by assumption),if_neg fun h=>hne h.2];simp
 · (refine fA hN [] (by decide) (.inr rfl) (by first|exact co rfl rfl|exact ce hN rfl rfl rfl rfl|exact bZ hN rfl rfl rfl rfl rfl|(simp (disch:=first|decide|omega|(simp only [List.length_cons,List.length_nil];omega)) only [bI,bJ,bK,bM,go_sem,beq_self_eq_true,↓aB,↓aj hN,ak hN,reduceIte,reduceCtorEq,Nat.reduceAdd,Nat.reduceLT,Nat.reduceLeDiff,Nat.reduceEqDiff,Nat.reduceSub];rfl)|rfl) ?_ fun νs hνs=>?_;(repeat' (first|exact Gone.nil|(refine Gone.cons rfl rfl ?_ ?_)|(with_reducible refine dS ?_)|(with_reducible refine dR ?_)|(with_reducible refine SVs.cons ?_ ?_)|(with_reducible exact SVs.nil)|(simp only [List.drop,List.take])|(simp (disch:=first|decide|omega) only [↓aB,reduceIte,reduceCtorEq,Nat.reduceEqDiff])|(with_reducible exact i4 _)|(with_reducible exact dP _)|(exact dQ rfl rfl rfl)|(exact eJ 0 (by simp) rfl rfl)|(refine fy hN rfl (dT hN (by decide)) ?_)|(with_reducible refine fx ?_)|(with_reducible rfl)|(with_reducible refine i6 ?_)|(with_reducible refine i7 ?_)|(with_reducible refine i8 ?_)|(with_reducible refine iN ?_)|(with_reducible refine eK ?_)|(refine ah ?_;omega))))
   rw [nH hk ho (fun h=>absurd h (by omega)),if_neg fun h=>by omega];simp
def gw (a b : List Int) : List Int:=b.foldl fD a
theorem sP {z : Int} : ∀ {b a : List Int},z ∈ gw a b ↔ z ∈ a ∨ z ∈ b:=by
 intro b
 induction b with
 | nil => intro a; simp [gw]
 | cons y ys ih =>
   intro a
   show z ∈ gw (fD a y) ys ↔ _
   rw [ih,pi,List.mem_cons]
   exact ⟨fun h=>h.elim (fun h=>h.elim (fun h=>.inr (.inl h)) .inl) fun h=>.inr (.inr h),fun h=>h.elim (fun h=>.inl (.inr h)) fun h=>h.elim (fun h=>.inl (.inl h)) .inr⟩
theorem ko {m : Int} : ∀ {b a : List Int},cc a m → cc b m → cc (gw a b) m:=by
 intro b
 induction b with
 | nil => intro a h _; exact h
 | cons y ys ih =>
   intro a h k
   obtain ⟨h1,h2,_⟩:=eC.1 k
   exact ih (qM h1.1 h1.2 h) h2
theorem jZ : ∀ (b a : List Int),(gw a b).length ≤ a.length + b.length:=by
 intro b
 induction b with
 | nil => intro a; exact Nat.le_refl _
 | cons y ys ih =>
   intro a
   have h1:=ih (fD a y)
   have h2:=uy y a
   show (gw (fD a y) ys).length ≤ _
   simp;omega
theorem qO {a b : List Int} {k : Nat} (h : k < b.length) : (b.take (k + 1)).foldl fD a = fD ((b.take k).foldl fD a) (gi b k):=by
 rw [List.take_succ_eq_append_getElem h,List.foldl_append,dM h];rfl
theorem uA (a b : List Int) : aO Tryz.prog 30 [.c (.I a),.c (.I b)] [] (fun _=>.c (.bool (tf (cc a 256 ∧ cc b 256)))):=by
 (refine bj ap Tryz.func30 rfl rfl (by kernel_rfl) fun hp0 ν hX hN=>?_;simp only [bU,Nat.reduceAdd])
 (repeat' (first|(with_reducible first|(apply hK;clear hK K)|refine stZ ?_|refine aD rfl ?_|((first|apply ae|apply af);clear ae X af Y))|(with_reducible refine aG ?_;first|refine aE rfl ?_|refine aF rfl ?_)|(with_reducible refine aX ?_;first|refine aL rfl rfl rfl rfl ?_|refine aW rfl rfl rfl ?_|refine bm rfl rfl rfl rfl ?_)|((first|(with_reducible first|((first|refine aJ ?_|refine aK ?_);intro K hK)|(refine am ?_;intro X Y ae af)|refine ao ?_)|(with_reducible refine aX ?_;refine aM rfl rfl fun X Y ae af=>?_));simp (disch:=first|decide|omega|(simp only [List.length_cons,List.length_nil];omega)) only [go_sem,beq_self_eq_true,↓aB,↓aj hN,ak hN,reduceIte,reduceCtorEq,Nat.reduceAdd,Nat.reduceLT,Nat.reduceLeDiff,Nat.reduceEqDiff,Nat.reduceSub])|(with_reducible refine And.intro (fun h=>?_) (fun h=>?_) <;> try (exfalso;omega))|(with_reducible refine aI ap hN ?_)|(refine bW (rA ?_ ?_) ?_ rfl (fun _=>rfl) ?_)|(with_reducible first|exact bt|refine bc ?_ ?_|exact cm _|refine bF ?_|exact bB _|exact bT _ _|refine bS ?_|exact bz _)|exact bG hN rfl rfl|(refine bR hN rfl ?_;first|exact aU _|exact aV _)|exact bA rfl rfl rfl|(simp only [aZ,List.map_nil])|(with_reducible refine aY ?_)|(with_reducible refine And.intro ?_ ?_)|(refine ah ?_;omega)|(exact aH hN (by decide))))
 all_goals (refine bP (.inr rfl) (by first|rfl|(simp (disch:=first|decide|omega|(simp only [List.length_cons,List.length_nil];omega)) only [bI,bJ,bK,bM,go_sem,beq_self_eq_true,↓aB,↓aj hN,ak hN,reduceIte,reduceCtorEq,Nat.reduceAdd,Nat.reduceLT,Nat.reduceLeDiff,Nat.reduceEqDiff,Nat.reduceSub];rfl)) ?_)
 all_goals refine eK ?_
 · exact c9 ⟨fun e=>⟨And.right (by assumption),e.2⟩,fun e=>⟨by omega,e.2⟩⟩
 · exact (aq fun e=>(by assumption : ¬ ((0 ≤ (256 : Int) ∧ (256 : Int) ≤ 256) ∧ cc a 256)) ⟨by omega,e.1⟩).symm
theorem sQ (a b : List Int) (ha : cc a 256) (hb : cc b 256) : aO Tryz.prog 16 [.c (.I a),.c (.I b)] [] (fun _=>.c (.I (gw a b))):=by
 have hla:=iw ha (by omega)
 have hlb:=iw hb (by omega)
 have hok:=uA a b
 rw [aP ⟨ha,hb⟩] at hok
 (refine bj ap Tryz.func16 rfl rfl (by kernel_rfl) fun hp0 ν hX hN=>?_;simp only [bU,Nat.reduceAdd])
 (repeat' (first|(with_reducible first|(apply hK;clear hK K)|refine stZ ?_|refine aD rfl ?_|((first|apply ae|apply af);clear ae X af Y))|(with_reducible refine aG ?_;first|refine aE rfl ?_|refine aF rfl ?_)|((with_reducible first|((first|refine aJ ?_|refine aK ?_);intro K hK)|(refine am ?_;intro X Y ae af)|refine ao ?_);simp (disch:=first|decide|omega|(simp only [List.length_cons,List.length_nil];omega)) only [go_sem,↓aj hN,ak hN,reduceIte,reduceCtorEq,Nat.reduceAdd,Nat.reduceLT,Nat.reduceLeDiff,Nat.reduceEqDiff,Nat.reduceSub])|(with_reducible refine And.intro (fun h=>?_) (fun h=>?_) <;> try (exfalso;omega))|(with_reducible refine aI ap hN ?_)|(refine bW hok ?_ rfl (fun _=>rfl) ?_)|(refine bW (jA a (by omega)) ?_ rfl (fun _=>rfl) ?_;focus ((repeat' (first|(with_reducible first|exact bt|refine bc ?_ ?_|exact cm _|refine bF ?_|exact bB _|exact bT _ _|refine bS ?_|exact bz _)|exact bG hN rfl rfl|(refine bR hN rfl ?_;first|exact aU _|exact aV _)|exact bA rfl rfl rfl));done))|(with_reducible first|exact bt|refine bc ?_ ?_|exact cm _|refine bF ?_|exact bB _|exact bT _ _|refine bS ?_|exact bz _)|exact bG hN rfl rfl|(refine bR hN rfl ?_;first|exact aU _|exact aV _)|exact bA rfl rfl rfl|(simp only [aZ,List.map_nil])|(with_reducible refine aY ?_)|(with_reducible refine And.intro ?_ ?_)|(refine ah ?_;omega)|(exact aH hN (by decide))))
 (refine bN (fun (k : Nat)=>(tmL [(6,.c (.int .i64 k)),(5,.c (.I ((b.take k).foldl fD a))),(1,.c (.I b))],hpL hp0 ν [])) (fun (k : Nat)=>k ≤ b.length) (fun (k : Nat)=>b.length - k) ⟨0,?_,bu hX hN [] ?_ ?_⟩ ?_;(repeat' (first|(with_reducible first|exact clZ|refine bn ?_ ?_|refine bo ?_ ?_|rfl|refine suZ ?_)|refine bp rfl ?_ ?_|exact aR hN _ rfl rfl rfl|exact aS hN _ rfl rfl rfl|exact ay hN _ rfl rfl rfl (Or.inr rfl)|(refine aT hN _ rfl rfl (by first|exact Or.inr rfl|exact Or.inl rfl) ?_;first|exact aU _|exact aV _)|refine az hN rfl ?_|refine aA hN rfl rfl ?_|exact ax hN _ rfl rfl|exact au hN rfl rfl rfl rfl|(with_reducible first|refine stZ ?_|refine aQ ?_)));(try (any_goals (first|(with_reducible rfl)|(refine ah ?_;omega)))))
 intro k hk
 have hlf:=jZ (b.take k) a
 have hlt : (b.take k).length ≤ k:=by simp;omega
 have e : gw a (b.take k) = (b.take k).foldl fD a:=rfl
 rw [e] at hlf
 (repeat' (first|(with_reducible first|(apply hK;clear hK K)|refine stZ ?_|refine aD rfl ?_|((first|apply ae|apply af);clear ae X af Y))|(with_reducible refine aG ?_;first|refine aE rfl ?_|refine aF rfl ?_)|((with_reducible first|((first|refine aJ ?_|refine aK ?_);intro K hK)|(refine am ?_;intro X Y ae af)|refine ao ?_);simp (disch:=first|decide|omega|(simp only [List.length_cons,List.length_nil];omega)) only [go_sem,↓aj hN,ak hN,reduceIte,reduceCtorEq,Nat.reduceAdd,Nat.reduceLT,Nat.reduceLeDiff,Nat.reduceEqDiff,Nat.reduceSub])|(with_reducible refine And.intro (fun h=>?_) (fun h=>?_) <;> try (exfalso;omega))|(with_reducible refine aI ap hN ?_)|(refine dq (uz ((b.take k).foldl fD a) (gi b k) (by omega)) ?_ rfl rfl ?_;focus ((repeat' (first|(with_reducible first|exact bt|refine bc ?_ ?_|exact cm _|refine bF ?_|exact bB _|exact bT _ _|refine bS ?_|exact bz _)|exact bG hN rfl rfl|(refine bR hN rfl ?_;first|exact aU _|exact aV _)|exact bA rfl rfl rfl));done))|(with_reducible first|exact bt|refine bc ?_ ?_|exact cm _|refine bF ?_|exact bB _|exact bT _ _|refine bS ?_|exact bz _)|exact bG hN rfl rfl|(refine bR hN rfl ?_;first|exact aU _|exact aV _)|exact bA rfl rfl rfl|(simp only [aZ,List.map_nil])|(with_reducible refine aY ?_)|(with_reducible refine And.intro ?_ ?_)|(refine ah ?_;omega)|(exact aH hN (by decide))))
 · (refine ⟨k + 1,⟨?_,?_⟩,bu hX hN [] ?_ ?_⟩;(try any_goals dsimp only);(repeat' (first|(with_reducible first|exact clZ|refine bn ?_ ?_|refine bo ?_ ?_|rfl|refine suZ ?_)|refine bp rfl ?_ ?_|exact aR hN _ rfl rfl rfl|exact aS hN _ rfl rfl rfl|exact ay hN _ rfl rfl rfl (Or.inr rfl)|(refine aT hN _ rfl rfl (by first|exact Or.inr rfl|exact Or.inl rfl) ?_;first|exact aU _|exact aV _)|refine az hN rfl ?_|refine aA hN rfl rfl ?_|exact ax hN _ rfl rfl|exact au hN rfl rfl rfl rfl|(with_reducible first|refine stZ ?_|refine aQ ?_)));(try (any_goals (first|(with_reducible rfl)|(refine ah ?_;omega)))))
   exact (qO (a:=a) (b:=b) (k:=k) (by omega)).symm
 · (refine fA hN [] (by decide) (.inr rfl) (by first|exact co rfl rfl|exact ce hN rfl rfl rfl rfl|exact bZ hN rfl rfl rfl rfl rfl|(simp (disch:=first|decide|omega|(simp only [List.length_cons,List.length_nil];omega)) only [bI,bJ,bK,bM,go_sem,beq_self_eq_true,↓aB,↓aj hN,ak hN,reduceIte,reduceCtorEq,Nat.reduceAdd,Nat.reduceLT,Nat.reduceLeDiff,Nat.reduceEqDiff,Nat.reduceSub];rfl)|rfl) ?_ fun νs hνs=>?_;(repeat' (first|exact Gone.nil|(refine Gone.cons rfl rfl ?_ ?_)|(with_reducible refine dS ?_)|(with_reducible refine dR ?_)|(with_reducible refine SVs.cons ?_ ?_)|(with_reducible exact SVs.nil)|(simp only [List.drop,List.take])|(simp (disch:=first|decide|omega) only [↓aB,reduceIte,reduceCtorEq,Nat.reduceEqDiff])|(with_reducible exact i4 _)|(with_reducible exact dP _)|(exact dQ rfl rfl rfl)|(exact eJ 0 (by simp) rfl rfl)|(refine fy hN rfl (dT hN (by decide)) ?_)|(with_reducible refine fx ?_)|(with_reducible rfl)|(with_reducible refine i6 ?_)|(with_reducible refine i7 ?_)|(with_reducible refine i8 ?_)|(with_reducible refine iN ?_)|(with_reducible refine eK ?_)|(refine ah ?_;omega))))
   rw [show k = b.length by omega,List.take_length];rfl
end Go.Proofs.YtiadchinhofieaaGreat
namespace Go.Proofs.YtiadchinhofieaaGreat
set_option linter.unusedVariables false
set_option linter.unusedSimpArgs false
open Go.RowKit
attribute [local irreducible] aO ck Aw Le
def ee (n : Int) : Nat → Dc → List Int → List Int × Dc
 | 0, d, r => (r, d)
 | k + 1, d, r => ee n k d.nxt (gw r [d.val n])
def fE (n pm : Int) : Nat → Dc → List Int → List (List Int) → List Int → Pa × Dc
 | 0, d, o, x, p => (⟨⟨o, x⟩, p⟩, d)
 | k + 1, d, o, x, p => fE n pm k (ee n (1 + d.val 3).toNat d.nxt []).2.nxt.nxt (o ++ [(ee n (1 + d.val 3).toNat d.nxt []).2.val 2]) (x ++ [(ee n (1 + d.val 3).toNat d.nxt []).1]) (p ++ [(ee n (1 + d.val 3).toNat d.nxt []).2.nxt.val pm])
def im (d : Dc) (most pm : Int) : Pa × Dc:=fE (1 + d.val most) pm (1 + d.val most).toNat d.nxt [] [] []
theorem j3 (n : Int) : cc [] n:=fun k hk=>absurd hk (Nat.not_lt_zero _)
theorem j4 {x n : Int} (h0 : 0 ≤ x) (h1 : x < n) : cc [x] n:=eC.2 ⟨⟨h0,h1⟩,j3 n,fun z hz=>by simp at hz⟩
theorem uB {n : Int} (hn : 1 ≤ n) : ∀ (k : Nat) (d : Dc) (r : List Int),cc r n → cc (ee n k d r).1 n ∧ (ee n k d r).1.length ≤ r.length + k ∧ (0 < k ∨ r ≠ [] → 1 ≤ (ee n k d r).1.length):=by
 intro k
 induction k with
 | zero => intro d r h; exact ⟨h, Nat.le_refl _, fun h => by rcases h with h | h; (· omega); exact List.length_pos_iff.2 h⟩
 | succ k ih =>
   intro d r h
   have hb:=d.bnd hn
   obtain ⟨h1,h2,h3⟩:=ih d.nxt (gw r [d.val n]) (ko h (j4 hb.1 hb.2))
   have h4:=jZ [d.val n] r
   refine ⟨h1,by show (ee n k d.nxt (gw r [d.val n])).1.length ≤ _;simp at h4;omega,fun _=>h3 (.inr fun e=>?_)⟩
   have : d.val n ∈ gw r [d.val n]:=sP.2 (.inr (by simp))
   rw [e] at this;cases this
structure GPart (n pm : Int) (o : List Int) (x : List (List Int)) (p : List Int) : Prop where
 l1 : x.length = o.length
 l2 : p.length = o.length
 at' : ∀ v,v < o.length → (0 ≤ gi o v ∧ gi o v ≤ 1) ∧ (1 ≤ (gr x v).length ∧ (gr x v).length ≤ 3 ∧ cc (gr x v) n) ∧ 0 ≤ gi p v ∧ gi p v < pm
theorem wU {xs : List (List Int)} {y : List Int} {v : Nat} (h : v ≤ xs.length) : gr (xs ++ [y]) v = if v < xs.length then gr xs v else y:=by
 unfold gr
 rw [cN]
 split
 · rfl
 · have : v - xs.length = 0:=by omega
   rw [this];rfl
theorem GPart.snoc {n pm : Int} {o : List Int} {x : List (List Int)} {p : List Int} (h : GPart n pm o x p) {a b : Int} {r : List Int} (ha : 0 ≤ a ∧ a ≤ 1) (hr : 1 ≤ r.length ∧ r.length ≤ 3 ∧ cc r n) (hb : 0 ≤ b ∧ b < pm) : GPart n pm (o ++ [a]) (x ++ [r]) (p ++ [b]):=by
 have h1:=h.l1
 have h2:=h.l2
 refine ⟨by simp [h1],by simp [h2],fun v hv=>?_⟩
 have hv' : v < o.length + 1:=by simpa using hv
 rw [fa,fa,wU (by omega),h1,h2]
 by_cases e : v < o.length
 · rw [if_pos e,if_pos e,if_pos e];exact h.at' v e
 · have : v = o.length:=by omega
   rw [if_neg e,if_neg e,if_neg e,if_pos this,if_pos this]
   exact ⟨ha,hr,hb⟩
theorem sR {n pm : Int} (hn : 1 ≤ n) (hp : 1 ≤ pm) : ∀ (k : Nat) (d : Dc) (o : List Int) (x : List (List Int)) (p : List Int),GPart n pm o x p →
  GPart n pm (fE n pm k d o x p).1.ar.own (fE n pm k d o x p).1.ar.nxt (fE n pm k d o x p).1.prio ∧ (fE n pm k d o x p).1.ar.own.length = o.length + k:=by
 intro k
 induction k with
 | zero => intro d o x p h; exact ⟨h, rfl⟩
 | succ k ih =>
   intro d o x p h
   have hb:=d.bnd (n:=3) (by omega)
   obtain ⟨h1,h2,h3⟩:=uB hn (1 + d.val 3).toNat d.nxt [] (j3 n)
   have h4:=(ee n (1 + d.val 3).toNat d.nxt []).2.bnd (n:=2) (by omega)
   have h5:=(ee n (1 + d.val 3).toNat d.nxt []).2.nxt.bnd (n:=pm) hp
   have hl : ([] : List Int).length = 0:=rfl
   have:=ih (ee n (1 + d.val 3).toNat d.nxt []).2.nxt.nxt _ _ _ (h.snoc (a:=(ee n (1 + d.val 3).toNat d.nxt []).2.val 2) (b:=(ee n (1 + d.val 3).toNat d.nxt []).2.nxt.val pm) (r:=(ee n (1 + d.val 3).toNat d.nxt []).1) ⟨h4.1,by omega⟩ ⟨h3 (.inl (by omega)),by omega,h1⟩ h5)
   refine ⟨this.1,this.2.trans ?_⟩
   simp;omega
theorem uC {d : Dc} {most pm : Int} (hm : 1 ≤ most ∧ most ≤ 16) (hp : 1 ≤ pm ∧ pm ≤ 41) : PaOk (im d most pm).1 ∧ ((im d most pm).1.prio.length : Int) ≤ most ∧ ∀ v,v < (im d most pm).1.prio.length → gi (im d most pm).1.prio v < pm:=by
 have hb:=d.bnd hm.1
 obtain ⟨h1,h2⟩:=sR (n:=1 + d.val most) (pm:=pm) (by omega) (by omega) (1 + d.val most).toNat d.nxt [] [] [] ⟨rfl,rfl,fun v hv=>absurd hv (Nat.not_lt_zero _)⟩
 have hl : ([] : List Int).length = 0:=rfl
 have e : im d most pm = fE (1 + d.val most) pm (1 + d.val most).toNat d.nxt [] [] []:=rfl
 rw [← e] at h1 h2
 have h3:=h1.l1
 have h4:=h1.l2
 refine ⟨⟨⟨by omega,by omega,h3,fun v hv=>?_⟩,h4,fun v hv=>?_⟩,by omega,fun v hv=>?_⟩
 · obtain ⟨a,⟨b1,b2,b3⟩,_⟩:=h1.at' v hv
   refine ⟨a.1,a.2,b1,by omega,fun j hj=>?_⟩
   have:=b3 j hj
   exact ⟨this.1,by omega,this.2.2⟩
 · obtain ⟨_,_,c1,c2⟩:=h1.at' v (by omega)
   exact ⟨c1,by omega⟩
 · exact (h1.at' v (by omega)).2.2.2
def uD (bs : List Int) (seed : Int) : Nat → Int
 | 0 => IntKind.u64.wrap (IntKind.u64.wrap (seed * 7919) + IntKind.u64.wrap bs.length)
 | k + 1 => IntKind.u64.wrap (IntKind.u64.wrap (IntKind.u64.wrap (uD bs seed k * 1099511628211) + IntKind.u64.wrap (gi bs k)) + 3)
def xC (bs : List Int) (hl : bs.length ≤ 4096) (hb : ∀ j,j < bs.length → 0 ≤ gi bs j ∧ gi bs j ≤ 255) (seed : Int) : Dc:=⟨bs,0,uD bs seed bs.length,hl,hb,by omega⟩
theorem yC (bs : List Int) (hl : bs.length ≤ 4096) (hb : ∀ j,j < bs.length → 0 ≤ gi bs j ∧ gi bs j ≤ 255) (seed : Int) : dx Tryz.prog 5 (fun _=>[.c (.Y bs),.c (.int .u64 seed)]) [] [] [diE (xC bs hl hb seed)] (fun ns=>.ad (ns.getD 0 0) 0):=by
 (refine fC ap Tryz.func5 rfl rfl (fun _=>by kernel_rfl) rfl rfl rfl rfl (by first|exact jv _|exact ic (j:=0) (by simp) (by simp [Ent.kind])|exact ig (j:=0) (by simp) (by simp [Ent.kind])|exact fB rfl|exact gn|exact jw _) fun hp0 ν hX hN=>?_;simp only [bU,Nat.reduceAdd])
 (repeat' (first|(with_reducible first|(apply hK;clear hK K)|refine stZ ?_|refine aD rfl ?_|((first|apply ae|apply af);clear ae X af Y))|(with_reducible refine aG ?_;first|refine aE rfl ?_|refine aF rfl ?_)|(with_reducible refine ba ?_;refine bd hN ?_)|((with_reducible first|((first|refine aJ ?_|refine bf ?_|refine aK ?_|refine bg ?_);intro K hK)|(refine am ?_;intro X Y ae af)|refine ao ?_);simp (disch:=first|decide|omega|(simp only [List.length_cons,List.length_nil];omega)) only [go_sem,↓aj hN,ak hN,reduceIte,reduceCtorEq,Nat.reduceAdd,Nat.reduceLT,Nat.reduceLeDiff,Nat.reduceEqDiff,Nat.reduceSub])|(with_reducible refine And.intro (fun h=>?_) (fun h=>?_) <;> try (exfalso;omega))|(with_reducible refine aI ap hN ?_)|(with_reducible refine aC ap hN ?_)|(with_reducible refine And.intro ?_ ?_)|(refine ah ?_;omega)|(exact aH hN (by decide))))
 (refine bN (fun (k : Nat)=>(tmL [(6,.c (.int .i64 k)),(5,.ad (ν 0) 0),(0,.c (.Y bs))],hpL hp0 ν [.box [.c (.Y bs),.c (.int .i64 0),.c (.int .u64 (uD bs seed k))]])) (fun (k : Nat)=>k ≤ bs.length) (fun (k : Nat)=>bs.length - k) ⟨0,?_,bu hX hN [] ?_ ?_⟩ ?_;(repeat' (first|(with_reducible first|exact clZ|refine bn ?_ ?_|refine bo ?_ ?_|rfl|refine suZ ?_)|refine bp rfl ?_ ?_|exact aR hN _ rfl rfl rfl|exact aS hN _ rfl rfl rfl|exact ay hN _ rfl rfl rfl (Or.inr rfl)|(refine aT hN _ rfl rfl (by first|exact Or.inr rfl|exact Or.inl rfl) ?_;first|exact aU _|exact aV _)|refine az hN rfl ?_|refine aA hN rfl rfl ?_|exact ax hN _ rfl rfl|exact au hN rfl rfl rfl rfl|(with_reducible first|refine stZ ?_|refine aQ ?_)));(try (any_goals (first|(with_reducible rfl)|(refine ah ?_;omega)))))
 · rfl
 intro k hk
 (repeat' (first|(with_reducible first|(apply hK;clear hK K)|refine stZ ?_|refine aD rfl ?_|((first|apply ae|apply af);clear ae X af Y))|(with_reducible refine aG ?_;first|refine aE rfl ?_|refine aF rfl ?_)|(with_reducible refine ba ?_;refine bd hN ?_)|((with_reducible first|((first|refine aJ ?_|refine bf ?_|refine aK ?_|refine bg ?_);intro K hK)|(refine am ?_;intro X Y ae af)|refine ao ?_);simp (disch:=first|decide|omega|(simp only [List.length_cons,List.length_nil];omega)) only [go_sem,↓aj hN,ak hN,reduceIte,reduceCtorEq,Nat.reduceAdd,Nat.reduceLT,Nat.reduceLeDiff,Nat.reduceEqDiff,Nat.reduceSub])|(with_reducible refine And.intro (fun h=>?_) (fun h=>?_) <;> try (exfalso;omega))|(with_reducible refine aI ap hN ?_)|(with_reducible refine aC ap hN ?_)|(with_reducible refine And.intro ?_ ?_)|(refine ah ?_;omega)|(exact aH hN (by decide))))
 · (refine ⟨k + 1,⟨?_,?_⟩,bu hX hN [] ?_ ?_⟩;(try any_goals dsimp only);(repeat' (first|(with_reducible first|exact clZ|refine bn ?_ ?_|refine bo ?_ ?_|rfl|refine suZ ?_)|refine bp rfl ?_ ?_|exact aR hN _ rfl rfl rfl|exact aS hN _ rfl rfl rfl|exact ay hN _ rfl rfl rfl (Or.inr rfl)|(refine aT hN _ rfl rfl (by first|exact Or.inr rfl|exact Or.inl rfl) ?_;first|exact aU _|exact aV _)|refine az hN rfl ?_|refine aA hN rfl rfl ?_|exact ax hN _ rfl rfl|exact au hN rfl rfl rfl rfl|(with_reducible first|refine stZ ?_|refine aQ ?_)));(try (any_goals (first|(with_reducible rfl)|(refine ah ?_;omega)))))
   rfl
 · (refine ⟨.inr rfl,_,(by first|exact co rfl rfl|exact ce hN rfl rfl rfl rfl|exact bZ hN rfl rfl rfl rfl rfl|(simp (disch:=first|decide|omega|(simp only [List.length_cons,List.length_nil];omega)) only [bI,bJ,bK,bM,go_sem,beq_self_eq_true,↓aB,↓aj hN,ak hN,reduceIte,reduceCtorEq,Nat.reduceAdd,Nat.reduceLT,Nat.reduceLeDiff,Nat.reduceEqDiff,Nat.reduceSub];rfl)|rfl),[],_,rfl,?_,rfl,?_⟩;(all_goals try simp only [List.drop,List.take,List.cons_append,List.nil_append,nmL,List.length_cons,List.length_nil,Nat.reduceAdd,List.getD_cons_zero]);(repeat' (first|(with_reducible first|exact clZ|refine bn ?_ ?_|refine bo ?_ ?_|rfl|refine suZ ?_)|refine bp rfl ?_ ?_|exact aR hN _ rfl rfl rfl|exact aS hN _ rfl rfl rfl|exact ay hN _ rfl rfl rfl (Or.inr rfl)|(refine aT hN _ rfl rfl (by first|exact Or.inr rfl|exact Or.inl rfl) ?_;first|exact aU _|exact aV _)|refine az hN rfl ?_|refine aA hN rfl rfl ?_|exact ax hN _ rfl rfl|exact au hN rfl rfl rfl rfl|(with_reducible first|refine stZ ?_|refine aQ ?_))))
   all_goals first|rfl|(rw [show k = bs.length by omega];rfl)
theorem uE (d : Dc) (most : Int) (hm : 1 ≤ most ∧ most ≤ 16) : dx Tryz.prog 6 (fun ν=>[.ad (ν 0) 0,.c (.int .i64 most)]) [diE d] [diE (im d most 6).2] [] (fun _=>paA (im d most 6).1):=by
 have hb:=d.bnd hm.1
 (refine fC ap Tryz.func6 rfl rfl (fun _=>by kernel_rfl) rfl rfl rfl rfl (by first|exact jv _|exact ic (j:=0) (by simp) (by simp [Ent.kind])|exact ig (j:=0) (by simp) (by simp [Ent.kind])|exact fB rfl|exact gn|exact jw _) fun hp0 ν hX hN=>?_;simp only [bU,Nat.reduceAdd])
 (repeat' (first|(with_reducible first|(apply hK;clear hK K)|refine stZ ?_|refine aD rfl ?_|((first|apply ae|apply af);clear ae X af Y))|(with_reducible refine aG ?_;first|refine aE rfl ?_|refine aF rfl ?_)|(with_reducible refine ba ?_;refine bd hN ?_)|((with_reducible first|((first|refine aJ ?_|refine bf ?_|refine aK ?_|refine bg ?_);intro K hK)|(refine am ?_;intro X Y ae af)|refine ao ?_);simp (disch:=first|decide|omega|(simp only [List.length_cons,List.length_nil];omega)) only [go_sem,↓aj hN,ak hN,reduceIte,reduceCtorEq,Nat.reduceAdd,Nat.reduceLT,Nat.reduceLeDiff,Nat.reduceEqDiff,Nat.reduceSub])|(with_reducible refine And.intro (fun h=>?_) (fun h=>?_) <;> try (exfalso;omega))|(with_reducible refine aI ap hN ?_)|(with_reducible refine aC ap hN ?_)|(refine dm (iK d most (by omega)) hN 0 rfl rfl rfl rfl rfl ?_ ?_ ?_ ?_;(focus (simp [bv,AV.names];done));(focus (intro ν' hν;(repeat' (first|exact ArgMs.nil|refine ArgMs.cons ?_ ?_|exact gR hν|exact gS hν|exact jx _|exact i5 (by first|exact bB _|exact bz _|exact bA rfl rfl rfl) rfl|(refine gT hN rfl ?_ (by decide);first|exact aU _|exact aV _)|refine d8 ?_));done));(focus (first|exact Or.inr ⟨rfl,rfl,fun _=>rfl⟩|exact Or.inl (by simp [bv,AV.names]))))|(with_reducible first|exact bt|refine bc ?_ ?_|exact cm _|refine bF ?_|exact bB _|exact bT _ _|refine bS ?_|exact bz _)|exact bG hN rfl rfl|(refine bR hN rfl ?_;first|exact aU _|exact aV _)|exact bA rfl rfl rfl|(simp only [aZ,List.map_nil])|(with_reducible refine aY ?_)|(simp (disch:=first|decide|omega|(simp only [List.length_cons,List.length_nil];omega)) only [aZ,List.map_cons,List.map_nil,ak hN,List.set_cons_zero,List.set_cons_succ])|(with_reducible refine And.intro ?_ ?_)|(refine ah ?_;omega)|(exact aH hN (by decide))))
 have hm2:=hm.2
 generalize hn : 1 + d.val most = n at *
 have hn0 : 1 ≤ n ∧ n ≤ 16:=by omega
 have hG : im d most 6 = fE n 6 n.toNat d.nxt [] [] []:=by unfold im;rw [hn]
 generalize im d most 6 = G at *
 (refine bN (fun (x : Nat × Dc × List Int × List (List Int) × List Int)=>(tmL [(7,.c (.int .i64 x.1)),(6,.ad (ν 2) 0),(5,.c (.int .i64 n)),(4,.ad (ν 1) 0),(0,.ad (ν 0) 0)],hpL hp0 ν [diE x.2.1,.box [.c .nul,.c .nul,.c .nul],.box [.sl (ν 3),.sl (ν 4),.sl (ν 5)],.arr 2 .may (.I x.2.2.1),.arr 27 .may (.R x.2.2.2.1),.arr 2 .may (.I x.2.2.2.2)])) (fun (x : Nat × Dc × List Int × List (List Int) × List Int)=>((x.1 : Int) ≤ n ∧ x.2.2.1.length = x.1 ∧ x.2.2.2.1.length = x.1 ∧ x.2.2.2.2.length = x.1) ∧ fE n 6 (n.toNat - x.1) x.2.1 x.2.2.1 x.2.2.2.1 x.2.2.2.2 = G) (fun (x : Nat × Dc × List Int × List (List Int) × List Int)=>n.toNat - x.1) ⟨(0,d.nxt,[],[],[]),?_,bu hX hN [] ?_ ?_⟩ ?_;(repeat' (first|(with_reducible first|exact clZ|refine bn ?_ ?_|refine bo ?_ ?_|rfl|refine suZ ?_)|refine bp rfl ?_ ?_|exact aR hN _ rfl rfl rfl|exact aS hN _ rfl rfl rfl|exact ay hN _ rfl rfl rfl (Or.inr rfl)|(refine aT hN _ rfl rfl (by first|exact Or.inr rfl|exact Or.inl rfl) ?_;first|exact aU _|exact aV _)|refine az hN rfl ?_|refine aA hN rfl rfl ?_|exact ax hN _ rfl rfl|exact au hN rfl rfl rfl rfl|(with_reducible first|refine stZ ?_|refine aQ ?_)));(try (any_goals (first|(with_reducible rfl)|(refine ah ?_;omega)))))
 · exact ⟨⟨by omega,rfl,rfl,rfl⟩,hG.symm⟩
 rintro ⟨v,dd,o,xx,p⟩ ⟨⟨hv,h1,h2,h3⟩,hGo⟩
 simp only at hv h1 h2 h3 hGo
 dsimp only
 have hb3:=dd.bnd (n:=3) (by omega)
 (repeat' (first|(with_reducible first|(apply hK;clear hK K)|refine stZ ?_|refine aD rfl ?_|((first|apply ae|apply af);clear ae X af Y))|(with_reducible refine aG ?_;first|refine aE rfl ?_|refine aF rfl ?_)|(with_reducible refine ba ?_;refine bd hN ?_)|((with_reducible first|((first|refine aJ ?_|refine bf ?_|refine aK ?_|refine bg ?_);intro K hK)|(refine am ?_;intro X Y ae af)|refine ao ?_);simp (disch:=first|decide|omega|(simp only [List.length_cons,List.length_nil];omega)) only [go_sem,↓aj hN,ak hN,reduceIte,reduceCtorEq,Nat.reduceAdd,Nat.reduceLT,Nat.reduceLeDiff,Nat.reduceEqDiff,Nat.reduceSub])|(with_reducible refine And.intro (fun h=>?_) (fun h=>?_) <;> try (exfalso;omega))|(with_reducible refine aI ap hN ?_)|(with_reducible refine aC ap hN ?_)|(refine dm (iK dd 3 (by omega)) hN 0 rfl rfl rfl rfl rfl ?_ ?_ ?_ ?_;(focus (simp [bv,AV.names];done));(focus (intro ν' hν;(repeat' (first|exact ArgMs.nil|refine ArgMs.cons ?_ ?_|exact gR hν|exact gS hν|exact jx _|exact i5 (by first|exact bB _|exact bz _|exact bA rfl rfl rfl) rfl|(refine gT hN rfl ?_ (by decide);first|exact aU _|exact aV _)|refine d8 ?_));done));(focus (first|exact Or.inr ⟨rfl,rfl,fun _=>rfl⟩|exact Or.inl (by simp [bv,AV.names]))))|(with_reducible first|exact bt|refine bc ?_ ?_|exact cm _|refine bF ?_|exact bB _|exact bT _ _|refine bS ?_|exact bz _)|exact bG hN rfl rfl|(refine bR hN rfl ?_;first|exact aU _|exact aV _)|exact bA rfl rfl rfl|(simp only [aZ,List.map_nil])|(with_reducible refine aY ?_)|(simp (disch:=first|decide|omega|(simp only [List.length_cons,List.length_nil];omega)) only [aZ,List.map_cons,List.map_nil,ak hN,List.set_cons_zero,List.set_cons_succ])|(with_reducible refine And.intro ?_ ?_)|(refine ah ?_;omega)|(exact aH hN (by decide))))
 · have hvn : (v : Int) < n:=by assumption
   have hgo1 : n.toNat - v = (n.toNat - (v + 1)) + 1:=by omega
   rw [hgo1,fE] at hGo
   generalize hR : ee n (1 + dd.val 3).toNat dd.nxt [] = R at hGo
   (refine bN (fun (z : Nat × Dc × List Int)=>(tmL [(9,.c (.int .i64 z.1)),(8,.c (.I z.2.2)),(7,.c (.int .i64 v)),(6,.ad (ν 2) 0),(5,.c (.int .i64 n)),(4,.ad (ν 1) 0),(0,.ad (ν 0) 0)],hpL hp0 ν [diE z.2.1,.box [.c .nul,.c .nul,.c .nul],.box [.sl (ν 3),.sl (ν 4),.sl (ν 5)],.arr 2 .may (.I o),.arr 27 .may (.R xx),.arr 2 .may (.I p)])) (fun (z : Nat × Dc × List Int)=>(z.2.2.length + z.1 ≤ 3 ∧ cc z.2.2 n) ∧ ee n z.1 z.2.1 z.2.2 = R) (fun (z : Nat × Dc × List Int)=>z.1) ⟨((1 + dd.val 3).toNat,dd.nxt,[]),?_,bu hX hN [] ?_ ?_⟩ ?_;(repeat' (first|(with_reducible first|exact clZ|refine bn ?_ ?_|refine bo ?_ ?_|rfl|refine suZ ?_)|refine bp rfl ?_ ?_|exact aR hN _ rfl rfl rfl|exact aS hN _ rfl rfl rfl|exact ay hN _ rfl rfl rfl (Or.inr rfl)|(refine aT hN _ rfl rfl (by first|exact Or.inr rfl|exact Or.inl rfl) ?_;first|exact aU _|exact aV _)|refine az hN rfl ?_|refine aA hN rfl rfl ?_|exact ax hN _ rfl rfl|exact au hN rfl rfl rfl rfl|(with_reducible first|refine stZ ?_|refine aQ ?_)));(try (any_goals (first|(with_reducible rfl)|(refine ah ?_;omega)))))
   · exact ⟨⟨by simp;omega,j3 n⟩,hR⟩
   rintro ⟨m,de,row⟩ ⟨⟨hm1,hm2⟩,hRo⟩
   simp only at hm1 hm2 hRo
   dsimp only
   have hbn:=de.bnd (n:=n) (by omega)
   have hR2:=R.2.bnd (n:=2) (by omega)
   have hR3:=R.2.nxt.bnd (n:=6) (by omega)
   have hs256 : cc row 256:=fun k hk=>by have:=hm2 k hk;exact ⟨this.1,by omega,this.2.2⟩
   (repeat' (first|(with_reducible first|(apply hK;clear hK K)|refine stZ ?_|refine aD rfl ?_|((first|apply ae|apply af);clear ae X af Y))|(with_reducible refine aG ?_;first|refine aE rfl ?_|refine aF rfl ?_)|(with_reducible refine ba ?_;refine bd hN ?_)|((with_reducible first|((first|refine aJ ?_|refine bf ?_|refine aK ?_|refine bg ?_);intro K hK)|(refine am ?_;intro X Y ae af)|refine ao ?_);simp (disch:=first|decide|omega|(simp only [List.length_cons,List.length_nil];omega)) only [go_sem,↓aj hN,ak hN,reduceIte,reduceCtorEq,Nat.reduceAdd,Nat.reduceLT,Nat.reduceLeDiff,Nat.reduceEqDiff,Nat.reduceSub])|(with_reducible refine And.intro (fun h=>?_) (fun h=>?_) <;> try (exfalso;omega))|(with_reducible refine aI ap hN ?_)|(with_reducible refine aC ap hN ?_)|(refine dm (iK de n (by omega)) hN 0 rfl rfl rfl rfl rfl ?_ ?_ ?_ ?_;(focus (simp [bv,AV.names];done));(focus (intro ν' hν;(repeat' (first|exact ArgMs.nil|refine ArgMs.cons ?_ ?_|exact gR hν|exact gS hν|exact jx _|exact i5 (by first|exact bB _|exact bz _|exact bA rfl rfl rfl) rfl|(refine gT hN rfl ?_ (by decide);first|exact aU _|exact aV _)|refine d8 ?_));done));(focus (first|exact Or.inr ⟨rfl,rfl,fun _=>rfl⟩|exact Or.inl (by simp [bv,AV.names]))))|(refine lB (sQ row [de.val n] hs256 (j4 (by omega) (by omega))) hN 6 ?_ rfl rfl rfl ?_;focus ((repeat' (first|(with_reducible first|exact bt|refine bc ?_ ?_|exact cm _|refine bF ?_|exact bB _|exact bT _ _|refine bS ?_|exact bz _)|exact bG hN rfl rfl|(refine bR hN rfl ?_;first|exact aU _|exact aV _)|exact bA rfl rfl rfl));done))|(refine dm (iK de 2 (by omega)) hN 0 rfl rfl rfl rfl rfl ?_ ?_ ?_ ?_;(focus (simp [bv,AV.names];done));(focus (intro ν' hν;(repeat' (first|exact ArgMs.nil|refine ArgMs.cons ?_ ?_|exact gR hν|exact gS hν|exact jx _|exact i5 (by first|exact bB _|exact bz _|exact bA rfl rfl rfl) rfl|(refine gT hN rfl ?_ (by decide);first|exact aU _|exact aV _)|refine d8 ?_));done));(focus (first|exact Or.inr ⟨rfl,rfl,fun _=>rfl⟩|exact Or.inl (by simp [bv,AV.names]))))|(refine dm (iK de.nxt 6 (by omega)) hN 0 rfl rfl rfl rfl rfl ?_ ?_ ?_ ?_;(focus (simp [bv,AV.names];done));(focus (intro ν' hν;(repeat' (first|exact ArgMs.nil|refine ArgMs.cons ?_ ?_|exact gR hν|exact gS hν|exact jx _|exact i5 (by first|exact bB _|exact bz _|exact bA rfl rfl rfl) rfl|(refine gT hN rfl ?_ (by decide);first|exact aU _|exact aV _)|refine d8 ?_));done));(focus (first|exact Or.inr ⟨rfl,rfl,fun _=>rfl⟩|exact Or.inl (by simp [bv,AV.names]))))|(with_reducible first|exact bt|refine bc ?_ ?_|exact cm _|refine bF ?_|exact bB _|exact bT _ _|refine bS ?_|exact bz _)|exact bG hN rfl rfl|(refine bR hN rfl ?_;first|exact aU _|exact aV _)|exact bA rfl rfl rfl|(simp only [aZ,List.map_nil])|(with_reducible refine aY ?_)|(simp (disch:=first|decide|omega|(simp only [List.length_cons,List.length_nil];omega)) only [aZ,List.map_cons,List.map_nil,ak hN,List.set_cons_zero,List.set_cons_succ])|(with_reducible refine And.intro ?_ ?_)|(refine ah ?_;omega)|(exact aH hN (by decide))))
   · have hm0 : 0 < m:=by omega
     have hbl:=jZ [de.val n] row
     rw [show m = (m - 1) + 1 by omega,ee] at hRo
     (refine ⟨(m - 1,de.nxt,gw row [de.val n]),⟨?_,?_⟩,bu hX hN [] ?_ ?_⟩;(try any_goals dsimp only);(repeat' (first|(with_reducible first|exact clZ|refine bn ?_ ?_|refine bo ?_ ?_|rfl|refine suZ ?_)|refine bp rfl ?_ ?_|exact aR hN _ rfl rfl rfl|exact aS hN _ rfl rfl rfl|exact ay hN _ rfl rfl rfl (Or.inr rfl)|(refine aT hN _ rfl rfl (by first|exact Or.inr rfl|exact Or.inl rfl) ?_;first|exact aU _|exact aV _)|refine az hN rfl ?_|refine aA hN rfl rfl ?_|exact ax hN _ rfl rfl|exact au hN rfl rfl rfl rfl|(with_reducible first|refine stZ ?_|refine aQ ?_)));(try (any_goals (first|(with_reducible rfl)|(refine ah ?_;omega)))))
     exact ⟨⟨by simp at hbl ⊢;omega,ko hm2 (j4 hbn.1 hbn.2)⟩,hRo⟩
   · have hm0 : m = 0:=by omega
     subst hm0
     rw [ee] at hRo
     subst hRo
     (refine ⟨(v + 1,de.nxt.nxt,o ++ [de.val 2],xx ++ [row],p ++ [de.nxt.val 6]),⟨?_,?_⟩,bu hX hN [(3,7),(4,9),(5,11)] ?_ ?_⟩;(try any_goals dsimp only);(repeat' (first|(with_reducible first|exact clZ|refine bn ?_ ?_|refine bo ?_ ?_|rfl|refine suZ ?_)|refine bp rfl ?_ ?_|exact aR hN _ rfl rfl rfl|exact aS hN _ rfl rfl rfl|exact ay hN _ rfl rfl rfl (Or.inr rfl)|(refine aT hN _ rfl rfl (by first|exact Or.inr rfl|exact Or.inl rfl) ?_;first|exact aU _|exact aV _)|refine az hN rfl ?_|refine aA hN rfl rfl ?_|exact ax hN _ rfl rfl|exact au hN rfl rfl rfl rfl|(with_reducible first|refine stZ ?_|refine aQ ?_)));(try (any_goals (first|(with_reducible rfl)|(refine ah ?_;omega)))))
     exact ⟨⟨by omega,by simp [h1],by simp [h2],by simp [h3]⟩,hGo⟩
 · rw [show n.toNat - v = 0 by omega,fE] at hGo
   subst hGo
   (refine ⟨.inr rfl,_,(by first|exact co rfl rfl|exact ce hN rfl rfl rfl rfl|exact bZ hN rfl rfl rfl rfl rfl|(simp (disch:=first|decide|omega|(simp only [List.length_cons,List.length_nil];omega)) only [bI,bJ,bK,bM,go_sem,beq_self_eq_true,↓aB,↓aj hN,ak hN,reduceIte,reduceCtorEq,Nat.reduceAdd,Nat.reduceLT,Nat.reduceLeDiff,Nat.reduceEqDiff,Nat.reduceSub];rfl)|rfl),[],_,rfl,?_,rfl,?_⟩;(all_goals try simp only [List.drop,List.take,List.cons_append,List.nil_append,nmL,List.length_cons,List.length_nil,Nat.reduceAdd,List.getD_cons_zero]);(repeat' (first|(with_reducible first|exact clZ|refine bn ?_ ?_|refine bo ?_ ?_|rfl|refine suZ ?_)|refine bp rfl ?_ ?_|exact aR hN _ rfl rfl rfl|exact aS hN _ rfl rfl rfl|exact ay hN _ rfl rfl rfl (Or.inr rfl)|(refine aT hN _ rfl rfl (by first|exact Or.inr rfl|exact Or.inl rfl) ?_;first|exact aU _|exact aV _)|refine az hN rfl ?_|refine aA hN rfl rfl ?_|exact ax hN _ rfl rfl|exact au hN rfl rfl rfl rfl|(with_reducible first|refine stZ ?_|refine aQ ?_))))
end Go.Proofs.YtiadchinhofieaaGreat
