/-
  The games, the plans that the dice draw.
-/
import Derived.Test.YtiadchinhofieaaZcFc
import Derived.Test.YtiadchinhofieaaZcG3
import Derived.Test.YtiadchinhofieaaZcKf
namespace Go.Proofs.Ytiadchinhofieaa
set_option linter.unusedVariables false
set_option linter.unusedSimpArgs false
open Go.RowKit
attribute [local irreducible] aq ci Aw Le
structure Dc where
 bs : List Int
 i : Int
 h : Int
 len : bs.length ≤ 4096
 byt : ∀ j,j < bs.length → 0 ≤ gi bs j ∧ gi bs j ≤ 255
 ok : 0 ≤ i ∧ i ≤ bs.length
def dH (h : Int) : Int:=IntKind.u64.wrap (IntKind.u64.wrap (h * 6364136223846793005) + 1442695040888963407)
def dX (h : Int) : Int:=IntKind.i64.wrap (oM .u64 (rN .u64 (dH h) 33) 16777215)
def Dc.nxt (d : Dc) : Dc:=⟨d.bs,if d.i < d.bs.length then d.i + 1 else d.i,dH d.h,d.len,d.byt,by have:=d.ok;split <;> omega⟩
def Dc.val (d : Dc) (n : Int) : Int:=(if d.i < d.bs.length then IntKind.i64.wrap (dX d.h + IntKind.i64.wrap (gi d.bs d.i.toNat)) else dX d.h).tmod n
abbrev diE (d : Dc) : Ent:=.box [.c (.Y d.bs),.c (.int .i64 d.i),.c (.int .u64 d.h)]
theorem uF (h : Int) : 0 ≤ dX h ∧ dX h ≤ 16777215:=by
 have h1 : ∀ a : Int,0 ≤ oM .u64 a 16777215 ∧ oM .u64 a 16777215 ≤ 16777215:=fun a=>by
  unfold oM
  have h2 : (BitVec.ofInt IntKind.u64.bits a &&& BitVec.ofInt IntKind.u64.bits 16777215).toNat ≤ 16777215:=by
   rw [BitVec.toNat_and]
   exact Nat.le_trans Nat.and_le_right (by decide)
  generalize (BitVec.ofInt IntKind.u64.bits a &&& BitVec.ofInt IntKind.u64.bits 16777215).toNat = m at *
  rw [show IntKind.u64.wrap (m : Int) = m by simp [IntKind.wrap,IntKind.bits,IntKind.signed];omega]
  omega
 obtain ⟨h2,h3⟩:=h1 (rN .u64 (dH h) 33)
 unfold dX
 rw [sB (by omega)]
 exact ⟨h2,h3⟩
theorem Dc.bnd (d : Dc) {n : Int} (hn : 1 ≤ n) : 0 ≤ d.val n ∧ d.val n < n:=by
 have hx:=uF d.h
 have hv : 0 ≤ (if d.i < d.bs.length then IntKind.i64.wrap (dX d.h + IntKind.i64.wrap (gi d.bs d.i.toNat)) else dX d.h):=by
  split
  · rename_i h
    have hb:=d.byt d.i.toNat (by have:=d.ok;omega)
    rw [sB (n:=gi d.bs d.i.toNat) (by omega),sB (by omega)]
    omega
  · exact hx.1
 unfold Dc.val
 rw [Int.tmod_eq_emod_of_nonneg hv]
 exact ⟨Int.emod_nonneg _ (by omega),Int.emod_lt_of_pos _ (by omega)⟩
theorem xJ (d : Dc) (n : Int) (hn : 1 ≤ n ∧ n ≤ 1125899906842624) : xA Try.prog 73 (fun ν=>[.ad (ν 0) 0,.c (.int .i64 n)]) [diE d] [diE d.nxt] [] (fun _=>.c (.int .i64 (d.val n))):=by
 obtain ⟨bs,i,h0,hl,hb,hi⟩:=d
 (refine xH aG Try.func73 rfl rfl (fun _=>by kernel_rfl) rfl rfl rfl rfl (by first|exact yb _|exact xR (j:=0) (by simp) (by simp [Ent.kind])|exact xS (j:=0) (by simp) (by simp [Ent.kind])|exact xG rfl|exact xK|exact yc _) fun hp0 ν hX hN=>?_;simp only [cx,Nat.reduceAdd])
 (repeat' (first|(with_reducible first|(apply hK;clear hK K)|refine stZ ?_|refine aM rfl ?_|((first|apply ae|apply af);clear ae X af Y))|(with_reducible refine aP ?_;first|refine aN rfl ?_|refine aO rfl ?_)|(with_reducible refine bU ?_;refine b8 hN ?_)|((with_reducible first|((first|refine aS ?_|refine b9 ?_|refine aT ?_|refine ca ?_);intro K hK)|(refine az ?_;intro X Y ae af)|refine aA ?_);simp (disch:=first|decide|omega|(simp only [List.length_cons,List.length_nil];omega)) only [go_sem,↓am hN,ao hN,reduceIte,reduceCtorEq,Nat.reduceAdd,Nat.reduceLT,Nat.reduceLeDiff,Nat.reduceEqDiff,Nat.reduceSub])|(with_reducible refine And.intro (fun h=>?_) (fun h=>?_) <;> try (exfalso;omega))|(with_reducible refine aR aG hN ?_)|(with_reducible refine bn aG hN ?_)|(with_reducible refine And.intro ?_ ?_)|(refine ak ?_;omega)|(exact aQ hN (by decide))))
 · (refine ⟨.inr rfl,_,(by first|exact b7 rfl rfl|exact bL hN rfl rfl rfl rfl|exact bF hN rfl rfl rfl rfl rfl|(simp (disch:=first|decide|omega|(simp only [List.length_cons,List.length_nil];omega)) only [bK,bS,bV,bY,go_sem,beq_self_eq_true,↓au,↓am hN,ao hN,reduceIte,reduceCtorEq,Nat.reduceAdd,Nat.reduceLT,Nat.reduceLeDiff,Nat.reduceEqDiff,Nat.reduceSub];rfl)|rfl),[],_,rfl,?_,rfl,?_⟩;(all_goals try simp only [List.drop,List.take,List.cons_append,List.nil_append,nmL,List.length_cons,List.length_nil,Nat.reduceAdd,List.getD_cons_zero]);(repeat' (first|(with_reducible first|exact clZ|refine bB ?_ ?_|refine bC ?_ ?_|rfl|refine suZ ?_)|refine bD rfl ?_ ?_|exact aX hN _ rfl rfl rfl|exact aY hN _ rfl rfl rfl|exact aC hN _ rfl rfl rfl (Or.inr rfl)|(refine aU hN _ rfl rfl (by first|exact Or.inr rfl|exact Or.inl rfl) ?_;first|exact aZ _|exact a8 _)|refine aD hN rfl ?_|refine aE hN rfl rfl ?_|exact aB hN _ rfl rfl|exact aF hN rfl rfl rfl rfl|(with_reducible first|refine stZ ?_|refine aW ?_))))
   all_goals simp [Dc.nxt,Dc.val,dX,dH, *]
 · (refine ⟨.inr rfl,_,(by first|exact b7 rfl rfl|exact bL hN rfl rfl rfl rfl|exact bF hN rfl rfl rfl rfl rfl|(simp (disch:=first|decide|omega|(simp only [List.length_cons,List.length_nil];omega)) only [bK,bS,bV,bY,go_sem,beq_self_eq_true,↓au,↓am hN,ao hN,reduceIte,reduceCtorEq,Nat.reduceAdd,Nat.reduceLT,Nat.reduceLeDiff,Nat.reduceEqDiff,Nat.reduceSub];rfl)|rfl),[],_,rfl,?_,rfl,?_⟩;(all_goals try simp only [List.drop,List.take,List.cons_append,List.nil_append,nmL,List.length_cons,List.length_nil,Nat.reduceAdd,List.getD_cons_zero]);(repeat' (first|(with_reducible first|exact clZ|refine bB ?_ ?_|refine bC ?_ ?_|rfl|refine suZ ?_)|refine bD rfl ?_ ?_|exact aX hN _ rfl rfl rfl|exact aY hN _ rfl rfl rfl|exact aC hN _ rfl rfl rfl (Or.inr rfl)|(refine aU hN _ rfl rfl (by first|exact Or.inr rfl|exact Or.inl rfl) ?_;first|exact aZ _|exact a8 _)|refine aD hN rfl ?_|refine aE hN rfl rfl ?_|exact aB hN _ rfl rfl|exact aF hN rfl rfl rfl rfl|(with_reducible first|refine stZ ?_|refine aW ?_))))
   all_goals simp [Dc.nxt,Dc.val,dX,dH, *]
end Go.Proofs.Ytiadchinhofieaa
namespace Go.Proofs.Ytiadchinhofieaa
set_option linter.unusedVariables false
set_option linter.unusedSimpArgs false
open Go.RowKit
attribute [local irreducible] aq ci Aw Le
def xB : List Int → Int → List Int
 | [], x => [x]
 | y :: ys, x => if y < x then y :: xB ys x else if y = x then y :: ys else x :: y :: ys
theorem yi {x z : Int} : ∀ {xs : List Int},z ∈ xB xs x ↔ z = x ∨ z ∈ xs:=by
 intro xs
 induction xs with
 | nil => simp [xB]
 | cons y ys ih =>
   unfold xB
   split
   · rw [List.mem_cons,ih,List.mem_cons]
     exact ⟨fun h=>h.elim (fun h=>.inr (.inl h)) fun h=>h.elim .inl fun h=>.inr (.inr h),fun h=>h.elim (fun h=>.inr (.inl h)) fun h=>h.elim .inl fun h=>.inr (.inr h)⟩
   · split
     · rename_i _ h;subst h
       exact ⟨fun h=>.inr h,fun h=>h.elim (fun h=>by rw [h];exact List.mem_cons_self) id⟩
     · rw [List.mem_cons]
theorem yG (x : Int) : ∀ xs : List Int,(xB xs x).length ≤ xs.length + 1:=by
 intro xs
 induction xs with
 | nil => simp [xB]
 | cons y ys ih =>
   unfold xB
   split
   · simp;omega
   · split
     · simp
     · simp
theorem yd {x : Int} : ∀ {xs : List Int} {k : Nat},k ≤ xs.length → (∀ j,j < k → gi xs j < x) → (k < xs.length → ¬ gi xs k < x) → xB xs x = if k < xs.length ∧ gi xs k = x then xs else xs.take k ++ x :: xs.drop k:=by
 intro xs
 induction xs with
 | nil =>
   intro k hk _ _
   have : k = 0:=by simpa using hk
   subst this;rfl
 | cons y ys ih =>
   intro k hk h1 h2
   cases k with
   | zero =>
     have h3 : ¬ y < x:=h2 (by simp)
     unfold xB
     rw [if_neg h3]
     by_cases h4 : y = x
     · rw [if_pos h4,if_pos ⟨by simp,h4⟩]
     · rw [if_neg h4,if_neg fun h=>h4 h.2];rfl
   | succ k =>
     have h3 : y < x:=h1 0 (by omega)
     unfold xB
     rw [if_pos h3,ih (k:=k) (by simpa using hk) (fun j hj=>h1 (j + 1) (by omega)) (fun h=>h2 (by simpa using h))]
     by_cases h5 : k < ys.length ∧ gi ys k = x
     · rw [if_pos h5,if_pos ⟨by simpa using h5.1,h5.2⟩]
     · rw [if_neg h5,if_neg fun h=>h5 ⟨by simpa using h.1,h.2⟩];rfl
theorem xz {y m : Int} {ys : List Int} : cS (y :: ys) m ↔ (0 ≤ y ∧ y < m) ∧ cS ys m ∧ ∀ z,z ∈ ys → y < z:=by
 constructor
 · intro h
   have h0:=h 0 (by simp)
   refine ⟨⟨h0.1,h0.2.1⟩,fun k hk=>?_,fun z hz=>?_⟩
   · have:=h (k + 1) (by simpa using hk)
     refine ⟨this.1,this.2.1,fun hk0=>?_⟩
     have h2:=this.2.2 (by omega)
     obtain ⟨j,rfl⟩ : ∃ j,k = j + 1:=⟨k - 1,by omega⟩
     exact h2
   · obtain ⟨j,hj,e⟩:=da hz
     have key : ∀ j,j < ys.length → y < gi ys j:=by
      intro j
      induction j with
      | zero => intro hj; exact (h 1 (by simp; omega)).2.2 (by omega)
      | succ j ih =>
        intro hj
        have:=ih (by omega)
        have h2:=(h (j + 2) (by simp;omega)).2.2 (by omega)
        have h3 : gi ys j < gi ys (j + 1):=h2
        omega
     rw [← e];exact key j hj
 · rintro ⟨⟨h1,h2⟩,h3,h4⟩ k hk
   cases k with
   | zero => exact ⟨h1, h2, fun h => by omega⟩
   | succ k =>
     have hk' : k < ys.length:=by simpa using hk
     obtain ⟨a,b,c⟩:=h3 k hk'
     refine ⟨a,b,fun _=>?_⟩
     cases k with
     | zero => exact h4 _ (cE hk')
     | succ k => exact c (by omega)
theorem yp {x m : Int} (h0 : 0 ≤ x) (h1 : x < m) : ∀ {xs : List Int},cS xs m → cS (xB xs x) m:=by
 intro xs
 induction xs with
 | nil => intro _; exact xz.2 ⟨⟨h0, h1⟩, fun k hk => absurd hk (Nat.not_lt_zero _), fun z hz => by simp at hz⟩
 | cons y ys ih =>
   intro h
   obtain ⟨a,b,c⟩:=xz.1 h
   unfold xB
   split
   · refine xz.2 ⟨a,ih b,fun z hz=>?_⟩
     rcases yi.1 hz with rfl|hz
     · assumption
     · exact c z hz
   · split
     · exact h
     · refine xz.2 ⟨⟨h0,h1⟩,h,fun z hz=>?_⟩
       rcases List.mem_cons.1 hz with rfl|hz
       · omega
       · have:=c z hz;omega
theorem yH (xs : List Int) (x : Int) (hl : xs.length ≤ 65536) : aq Try.prog 119 [.c (.I xs),.c (.int .i64 x)] [] (fun _=>.c (.I (xB xs x))):=by
 (refine bh aG Try.func119 rfl rfl (by kernel_rfl) fun hp0 ν hX hN=>?_;simp only [cx,Nat.reduceAdd])
 (repeat' (first|(with_reducible first|(apply hK;clear hK K)|refine stZ ?_|refine aM rfl ?_|((first|apply ae|apply af);clear ae X af Y))|(with_reducible refine aP ?_;first|refine aN rfl ?_|refine aO rfl ?_)|(with_reducible refine be ?_;first|refine aK rfl rfl rfl rfl ?_|refine bc rfl rfl rfl ?_|refine bp rfl rfl rfl rfl ?_)|((first|(with_reducible first|((first|refine aS ?_|refine aT ?_);intro K hK)|(refine az ?_;intro X Y ae af)|refine aA ?_)|(with_reducible refine be ?_;refine aL rfl rfl fun X Y ae af=>?_));simp (disch:=first|decide|omega|(simp only [List.length_cons,List.length_nil];omega)) only [go_sem,↓am hN,ao hN,reduceIte,reduceCtorEq,Nat.reduceAdd,Nat.reduceLT,Nat.reduceLeDiff,Nat.reduceEqDiff,Nat.reduceSub])|(with_reducible refine And.intro (fun h=>?_) (fun h=>?_) <;> try (exfalso;omega))|(with_reducible refine aR aG hN ?_)|(with_reducible refine And.intro ?_ ?_)|(refine ak ?_;omega)|(exact aQ hN (by decide))))
 (refine cj (fun (k : Nat)=>(tmL [(5,.c (.int .i64 k)),(0,.c (.I xs)),(1,.c (.int .i64 x))],hpL hp0 ν [])) (fun (k : Nat)=>k ≤ xs.length ∧ ∀ j,j < k → gi xs j < x) (fun (k : Nat)=>xs.length - k) ⟨0,?_,bA hX hN [] ?_ ?_⟩ ?_;(repeat' (first|(with_reducible first|exact clZ|refine bB ?_ ?_|refine bC ?_ ?_|rfl|refine suZ ?_)|refine bD rfl ?_ ?_|exact aX hN _ rfl rfl rfl|exact aY hN _ rfl rfl rfl|exact aC hN _ rfl rfl rfl (Or.inr rfl)|(refine aU hN _ rfl rfl (by first|exact Or.inr rfl|exact Or.inl rfl) ?_;first|exact aZ _|exact a8 _)|refine aD hN rfl ?_|refine aE hN rfl rfl ?_|exact aB hN _ rfl rfl|exact aF hN rfl rfl rfl rfl|(with_reducible first|refine stZ ?_|refine aW ?_)));(try (any_goals (first|(with_reducible rfl)|(refine ak ?_;omega)))))
 · exact ⟨Nat.zero_le _,fun j hj=>absurd hj (Nat.not_lt_zero _)⟩
 rintro k ⟨hk,ho⟩
 have hdr : List.drop (Int.toNat 0) (List.take k xs) = xs.take k:=rfl
 have hdl : List.drop k (List.take xs.length xs) = xs.drop k:=by rw [List.take_length]
 have hl1 : (xs.take k).length = k:=by simp;omega
 have hl2 : (xs.drop k).length = xs.length - k:=by simp
 (repeat' (first|(with_reducible first|(apply hK;clear hK K)|refine stZ ?_|refine aM rfl ?_|((first|apply ae|apply af);clear ae X af Y))|(with_reducible refine aP ?_;first|refine aN rfl ?_|refine aO rfl ?_)|(with_reducible refine be ?_;first|refine aK rfl rfl rfl rfl ?_|refine bc rfl rfl rfl ?_|refine bp rfl rfl rfl rfl ?_)|((first|(with_reducible first|((first|refine aS ?_|refine aT ?_);intro K hK)|(refine az ?_;intro X Y ae af)|refine aA ?_)|(with_reducible refine be ?_;refine aL rfl rfl fun X Y ae af=>?_));simp (disch:=first|decide|omega|(simp only [List.length_cons,List.length_nil];omega)) only [go_sem,↓am hN,ao hN,reduceIte,reduceCtorEq,Nat.reduceAdd,Nat.reduceLT,Nat.reduceLeDiff,Nat.reduceEqDiff,Nat.reduceSub])|(with_reducible refine And.intro (fun h=>?_) (fun h=>?_) <;> try (exfalso;omega))|(with_reducible refine aR aG hN ?_)|(refine bE (mB ?_ ?_) ?_ rfl (fun _=>rfl) ?_)|(with_reducible first|exact aV|refine aJ ?_ ?_|exact cF _|refine bv ?_|exact bz _|exact bR _ _|refine bQ ?_|exact bt _)|exact bw hN rfl rfl|(refine bP hN rfl ?_;first|exact aZ _|exact a8 _)|exact bu rfl rfl rfl|(simp only [ba,List.map_nil])|(with_reducible refine bo ?_)|(with_reducible refine And.intro ?_ ?_)|(refine ak ?_;omega)|(exact aQ hN (by decide))))
 all_goals try simp only [hdr,hdl]
 all_goals try (refine ak ?_;omega)
 · (refine ⟨k + 1,⟨?_,?_⟩,bA hX hN [] ?_ ?_⟩;(try any_goals dsimp only);(repeat' (first|(with_reducible first|exact clZ|refine bB ?_ ?_|refine bC ?_ ?_|rfl|refine suZ ?_)|refine bD rfl ?_ ?_|exact aX hN _ rfl rfl rfl|exact aY hN _ rfl rfl rfl|exact aC hN _ rfl rfl rfl (Or.inr rfl)|(refine aU hN _ rfl rfl (by first|exact Or.inr rfl|exact Or.inl rfl) ?_;first|exact aZ _|exact a8 _)|refine aD hN rfl ?_|refine aE hN rfl rfl ?_|exact aB hN _ rfl rfl|exact aF hN rfl rfl rfl rfl|(with_reducible first|refine stZ ?_|refine aW ?_)));(try (any_goals (first|(with_reducible rfl)|(refine ak ?_;omega)))))
   exact ⟨by omega,yE ho (by assumption)⟩
 · (refine dC hN [] (by decide) (.inr rfl) (by first|exact b7 rfl rfl|exact bL hN rfl rfl rfl rfl|exact bF hN rfl rfl rfl rfl rfl|(simp (disch:=first|decide|omega|(simp only [List.length_cons,List.length_nil];omega)) only [bK,bS,bV,bY,go_sem,beq_self_eq_true,↓au,↓am hN,ao hN,reduceIte,reduceCtorEq,Nat.reduceAdd,Nat.reduceLT,Nat.reduceLeDiff,Nat.reduceEqDiff,Nat.reduceSub];rfl)|rfl) ?_ fun νs hνs=>?_;(repeat' (first|exact Gone.nil|(refine Gone.cons rfl rfl ?_ ?_)|(with_reducible refine cX ?_)|(with_reducible refine cW ?_)|(with_reducible refine SVs.cons ?_ ?_)|(with_reducible exact SVs.nil)|(simp only [List.drop,List.take])|(simp (disch:=first|decide|omega) only [↓au,reduceIte,reduceCtorEq,Nat.reduceEqDiff])|(with_reducible exact eY _)|(with_reducible exact cU _)|(exact cV rfl rfl rfl)|(exact dp 0 (by simp) rfl rfl)|(refine dB hN rfl (cY hN (by decide)) ?_)|(with_reducible refine dA ?_)|(with_reducible rfl)|(with_reducible refine eZ ?_)|(with_reducible refine e8 ?_)|(with_reducible refine e9 ?_)|(with_reducible refine eR ?_)|(with_reducible refine fa ?_)|(refine ak ?_;omega))))
   rw [yd hk ho (fun _=>by assumption),if_pos ⟨by omega,by assumption⟩]
 · have hne : ¬ gi xs k = x:=beq_eq_false_iff_ne.1 (by assumption)
   (refine dC hN [] (by decide) (.inr rfl) (by first|exact b7 rfl rfl|exact bL hN rfl rfl rfl rfl|exact bF hN rfl rfl rfl rfl rfl|(simp (disch:=first|decide|omega|(simp only [List.length_cons,List.length_nil];omega)) only [bK,bS,bV,bY,go_sem,beq_self_eq_true,↓au,↓am hN,ao hN,reduceIte,reduceCtorEq,Nat.reduceAdd,Nat.reduceLT,Nat.reduceLeDiff,Nat.reduceEqDiff,Nat.reduceSub];rfl)|rfl) ?_ fun νs hνs=>?_;(repeat' (first|exact Gone.nil|(refine Gone.cons rfl rfl ?_ ?_)|(with_reducible refine cX ?_)|(with_reducible refine cW ?_)|(with_reducible refine SVs.cons ?_ ?_)|(with_reducible exact SVs.nil)|(simp only [List.drop,List.take])|(simp (disch:=first|decide|omega) only [↓au,reduceIte,reduceCtorEq,Nat.reduceEqDiff])|(with_reducible exact eY _)|(with_reducible exact cU _)|(exact cV rfl rfl rfl)|(exact dp 0 (by simp) rfl rfl)|(refine dB hN rfl (cY hN (by decide)) ?_)|(with_reducible refine dA ?_)|(with_reducible rfl)|(with_reducible refine eZ ?_)|(with_reducible refine e8 ?_)|(with_reducible refine e9 ?_)|(with_reducible refine eR ?_)|(with_reducible refine fa ?_)|(refine ak ?_;omega))))
   rw [yd hk ho (fun _=>by assumption),if_neg fun h=>hne h.2];simp
 · (refine dC hN [] (by decide) (.inr rfl) (by first|exact b7 rfl rfl|exact bL hN rfl rfl rfl rfl|exact bF hN rfl rfl rfl rfl rfl|(simp (disch:=first|decide|omega|(simp only [List.length_cons,List.length_nil];omega)) only [bK,bS,bV,bY,go_sem,beq_self_eq_true,↓au,↓am hN,ao hN,reduceIte,reduceCtorEq,Nat.reduceAdd,Nat.reduceLT,Nat.reduceLeDiff,Nat.reduceEqDiff,Nat.reduceSub];rfl)|rfl) ?_ fun νs hνs=>?_;(repeat' (first|exact Gone.nil|(refine Gone.cons rfl rfl ?_ ?_)|(with_reducible refine cX ?_)|(with_reducible refine cW ?_)|(with_reducible refine SVs.cons ?_ ?_)|(with_reducible exact SVs.nil)|(simp only [List.drop,List.take])|(simp (disch:=first|decide|omega) only [↓au,reduceIte,reduceCtorEq,Nat.reduceEqDiff])|(with_reducible exact eY _)|(with_reducible exact cU _)|(exact cV rfl rfl rfl)|(exact dp 0 (by simp) rfl rfl)|(refine dB hN rfl (cY hN (by decide)) ?_)|(with_reducible refine dA ?_)|(with_reducible rfl)|(with_reducible refine eZ ?_)|(with_reducible refine e8 ?_)|(with_reducible refine e9 ?_)|(with_reducible refine eR ?_)|(with_reducible refine fa ?_)|(refine ak ?_;omega))))
   rw [yd hk ho (fun h=>absurd h (by omega)),if_neg fun h=>by omega];simp
def xE (a b : List Int) : List Int:=b.foldl xB a
theorem yw {z : Int} : ∀ {b a : List Int},z ∈ xE a b ↔ z ∈ a ∨ z ∈ b:=by
 intro b
 induction b with
 | nil => intro a; simp [xE]
 | cons y ys ih =>
   intro a
   show z ∈ xE (xB a y) ys ↔ _
   rw [ih,yi,List.mem_cons]
   exact ⟨fun h=>h.elim (fun h=>h.elim (fun h=>.inr (.inl h)) .inl) fun h=>.inr (.inr h),fun h=>h.elim (fun h=>.inl (.inr h)) fun h=>h.elim (fun h=>.inl (.inl h)) .inr⟩
theorem xQ {m : Int} : ∀ {b a : List Int},cS a m → cS b m → cS (xE a b) m:=by
 intro b
 induction b with
 | nil => intro a h _; exact h
 | cons y ys ih =>
   intro a h k
   obtain ⟨h1,h2,_⟩:=xz.1 k
   exact ih (yp h1.1 h1.2 h) h2
theorem xM : ∀ (b a : List Int),(xE a b).length ≤ a.length + b.length:=by
 intro b
 induction b with
 | nil => intro a; exact Nat.le_refl _
 | cons y ys ih =>
   intro a
   have h1:=ih (xB a y)
   have h2:=yG y a
   show (xE (xB a y) ys).length ≤ _
   simp;omega
theorem yq {a b : List Int} {k : Nat} (h : k < b.length) : (b.take (k + 1)).foldl xB a = xB ((b.take k).foldl xB a) (gi b k):=by
 rw [List.take_succ_eq_append_getElem h,List.foldl_append,c9 h];rfl
theorem yI (a b : List Int) : aq Try.prog 118 [.c (.I a),.c (.I b)] [] (fun _=>.c (.bool (tf (cS a 256 ∧ cS b 256)))):=by
 (refine bh aG Try.func118 rfl rfl (by kernel_rfl) fun hp0 ν hX hN=>?_;simp only [cx,Nat.reduceAdd])
 (repeat' (first|(with_reducible first|(apply hK;clear hK K)|refine stZ ?_|refine aM rfl ?_|((first|apply ae|apply af);clear ae X af Y))|(with_reducible refine aP ?_;first|refine aN rfl ?_|refine aO rfl ?_)|(with_reducible refine be ?_;first|refine aK rfl rfl rfl rfl ?_|refine bc rfl rfl rfl ?_|refine bp rfl rfl rfl rfl ?_)|((first|(with_reducible first|((first|refine aS ?_|refine aT ?_);intro K hK)|(refine az ?_;intro X Y ae af)|refine aA ?_)|(with_reducible refine be ?_;refine aL rfl rfl fun X Y ae af=>?_));simp (disch:=first|decide|omega|(simp only [List.length_cons,List.length_nil];omega)) only [go_sem,beq_self_eq_true,↓au,↓am hN,ao hN,reduceIte,reduceCtorEq,Nat.reduceAdd,Nat.reduceLT,Nat.reduceLeDiff,Nat.reduceEqDiff,Nat.reduceSub])|(with_reducible refine And.intro (fun h=>?_) (fun h=>?_) <;> try (exfalso;omega))|(with_reducible refine aR aG hN ?_)|(refine bE (yO ?_ ?_) ?_ rfl (fun _=>rfl) ?_)|(with_reducible first|exact aV|refine aJ ?_ ?_|exact cF _|refine bv ?_|exact bz _|exact bR _ _|refine bQ ?_|exact bt _)|exact bw hN rfl rfl|(refine bP hN rfl ?_;first|exact aZ _|exact a8 _)|exact bu rfl rfl rfl|(simp only [ba,List.map_nil])|(with_reducible refine bo ?_)|(with_reducible refine And.intro ?_ ?_)|(refine ak ?_;omega)|(exact aQ hN (by decide))))
 all_goals (refine dd (.inr rfl) (by first|rfl|(simp (disch:=first|decide|omega|(simp only [List.length_cons,List.length_nil];omega)) only [bK,bS,bV,bY,go_sem,beq_self_eq_true,↓au,↓am hN,ao hN,reduceIte,reduceCtorEq,Nat.reduceAdd,Nat.reduceLT,Nat.reduceLeDiff,Nat.reduceEqDiff,Nat.reduceSub];rfl)) ?_)
 all_goals refine fa ?_
 · exact eg ⟨fun e=>⟨And.right (by assumption),e.2⟩,fun e=>⟨by omega,e.2⟩⟩
 · exact (ax fun e=>(by assumption : ¬ ((0 ≤ (256 : Int) ∧ (256 : Int) ≤ 256) ∧ cS a 256)) ⟨by omega,e.1⟩).symm
theorem yx (a b : List Int) (ha : cS a 256) (hb : cS b 256) : aq Try.prog 74 [.c (.I a),.c (.I b)] [] (fun _=>.c (.I (xE a b))):=by
 have hla:=j9 ha (by omega)
 have hlb:=j9 hb (by omega)
 have hok:=yI a b
 rw [aH ⟨ha,hb⟩] at hok
 (refine bh aG Try.func74 rfl rfl (by kernel_rfl) fun hp0 ν hX hN=>?_;simp only [cx,Nat.reduceAdd])
 (repeat' (first|(with_reducible first|(apply hK;clear hK K)|refine stZ ?_|refine aM rfl ?_|((first|apply ae|apply af);clear ae X af Y))|(with_reducible refine aP ?_;first|refine aN rfl ?_|refine aO rfl ?_)|((with_reducible first|((first|refine aS ?_|refine aT ?_);intro K hK)|(refine az ?_;intro X Y ae af)|refine aA ?_);simp (disch:=first|decide|omega|(simp only [List.length_cons,List.length_nil];omega)) only [go_sem,↓am hN,ao hN,reduceIte,reduceCtorEq,Nat.reduceAdd,Nat.reduceLT,Nat.reduceLeDiff,Nat.reduceEqDiff,Nat.reduceSub])|(with_reducible refine And.intro (fun h=>?_) (fun h=>?_) <;> try (exfalso;omega))|(with_reducible refine aR aG hN ?_)|(refine bE hok ?_ rfl (fun _=>rfl) ?_)|(refine bJ hN (mB a (by omega)) ?_)|(with_reducible first|exact aV|refine aJ ?_ ?_|exact cF _|refine bv ?_|exact bz _|exact bR _ _|refine bQ ?_|exact bt _)|exact bw hN rfl rfl|(refine bP hN rfl ?_;first|exact aZ _|exact a8 _)|exact bu rfl rfl rfl|(simp only [ba,List.map_nil])|(with_reducible refine bo ?_)|(with_reducible refine And.intro ?_ ?_)|(refine ak ?_;omega)|(exact aQ hN (by decide))))
 (refine cj (fun (k : Nat)=>(tmL [(6,.c (.int .i64 k)),(5,.c (.I ((b.take k).foldl xB a))),(1,.c (.I b))],hpL hp0 ν [])) (fun (k : Nat)=>k ≤ b.length) (fun (k : Nat)=>b.length - k) ⟨0,?_,bA hX hN [] ?_ ?_⟩ ?_;(repeat' (first|(with_reducible first|exact clZ|refine bB ?_ ?_|refine bC ?_ ?_|rfl|refine suZ ?_)|refine bD rfl ?_ ?_|exact aX hN _ rfl rfl rfl|exact aY hN _ rfl rfl rfl|exact aC hN _ rfl rfl rfl (Or.inr rfl)|(refine aU hN _ rfl rfl (by first|exact Or.inr rfl|exact Or.inl rfl) ?_;first|exact aZ _|exact a8 _)|refine aD hN rfl ?_|refine aE hN rfl rfl ?_|exact aB hN _ rfl rfl|exact aF hN rfl rfl rfl rfl|(with_reducible first|refine stZ ?_|refine aW ?_)));(try (any_goals (first|(with_reducible rfl)|(refine ak ?_;omega)))))
 intro k hk
 have hlf:=xM (b.take k) a
 have hlt : (b.take k).length ≤ k:=by simp;omega
 have e : xE a (b.take k) = (b.take k).foldl xB a:=rfl
 rw [e] at hlf
 (repeat' (first|(with_reducible first|(apply hK;clear hK K)|refine stZ ?_|refine aM rfl ?_|((first|apply ae|apply af);clear ae X af Y))|(with_reducible refine aP ?_;first|refine aN rfl ?_|refine aO rfl ?_)|((with_reducible first|((first|refine aS ?_|refine aT ?_);intro K hK)|(refine az ?_;intro X Y ae af)|refine aA ?_);simp (disch:=first|decide|omega|(simp only [List.length_cons,List.length_nil];omega)) only [go_sem,↓am hN,ao hN,reduceIte,reduceCtorEq,Nat.reduceAdd,Nat.reduceLT,Nat.reduceLeDiff,Nat.reduceEqDiff,Nat.reduceSub])|(with_reducible refine And.intro (fun h=>?_) (fun h=>?_) <;> try (exfalso;omega))|(with_reducible refine aR aG hN ?_)|(refine cK (yH ((b.take k).foldl xB a) (gi b k) (by omega)) ?_ rfl rfl ?_;focus ((repeat' (first|(with_reducible first|exact aV|refine aJ ?_ ?_|exact cF _|refine bv ?_|exact bz _|exact bR _ _|refine bQ ?_|exact bt _)|exact bw hN rfl rfl|(refine bP hN rfl ?_;first|exact aZ _|exact a8 _)|exact bu rfl rfl rfl));done))|(with_reducible first|exact aV|refine aJ ?_ ?_|exact cF _|refine bv ?_|exact bz _|exact bR _ _|refine bQ ?_|exact bt _)|exact bw hN rfl rfl|(refine bP hN rfl ?_;first|exact aZ _|exact a8 _)|exact bu rfl rfl rfl|(simp only [ba,List.map_nil])|(with_reducible refine bo ?_)|(with_reducible refine And.intro ?_ ?_)|(refine ak ?_;omega)|(exact aQ hN (by decide))))
 · (refine ⟨k + 1,⟨?_,?_⟩,bA hX hN [] ?_ ?_⟩;(try any_goals dsimp only);(repeat' (first|(with_reducible first|exact clZ|refine bB ?_ ?_|refine bC ?_ ?_|rfl|refine suZ ?_)|refine bD rfl ?_ ?_|exact aX hN _ rfl rfl rfl|exact aY hN _ rfl rfl rfl|exact aC hN _ rfl rfl rfl (Or.inr rfl)|(refine aU hN _ rfl rfl (by first|exact Or.inr rfl|exact Or.inl rfl) ?_;first|exact aZ _|exact a8 _)|refine aD hN rfl ?_|refine aE hN rfl rfl ?_|exact aB hN _ rfl rfl|exact aF hN rfl rfl rfl rfl|(with_reducible first|refine stZ ?_|refine aW ?_)));(try (any_goals (first|(with_reducible rfl)|(refine ak ?_;omega)))))
   exact (yq (a:=a) (b:=b) (k:=k) (by omega)).symm
 · (refine dC hN [] (by decide) (.inr rfl) (by first|exact b7 rfl rfl|exact bL hN rfl rfl rfl rfl|exact bF hN rfl rfl rfl rfl rfl|(simp (disch:=first|decide|omega|(simp only [List.length_cons,List.length_nil];omega)) only [bK,bS,bV,bY,go_sem,beq_self_eq_true,↓au,↓am hN,ao hN,reduceIte,reduceCtorEq,Nat.reduceAdd,Nat.reduceLT,Nat.reduceLeDiff,Nat.reduceEqDiff,Nat.reduceSub];rfl)|rfl) ?_ fun νs hνs=>?_;(repeat' (first|exact Gone.nil|(refine Gone.cons rfl rfl ?_ ?_)|(with_reducible refine cX ?_)|(with_reducible refine cW ?_)|(with_reducible refine SVs.cons ?_ ?_)|(with_reducible exact SVs.nil)|(simp only [List.drop,List.take])|(simp (disch:=first|decide|omega) only [↓au,reduceIte,reduceCtorEq,Nat.reduceEqDiff])|(with_reducible exact eY _)|(with_reducible exact cU _)|(exact cV rfl rfl rfl)|(exact dp 0 (by simp) rfl rfl)|(refine dB hN rfl (cY hN (by decide)) ?_)|(with_reducible refine dA ?_)|(with_reducible rfl)|(with_reducible refine eZ ?_)|(with_reducible refine e8 ?_)|(with_reducible refine e9 ?_)|(with_reducible refine eR ?_)|(with_reducible refine fa ?_)|(refine ak ?_;omega))))
   rw [show k = b.length by omega,List.take_length];rfl
end Go.Proofs.Ytiadchinhofieaa
namespace Go.Proofs.Ytiadchinhofieaa
set_option linter.unusedVariables false
set_option linter.unusedSimpArgs false
open Go.RowKit
attribute [local irreducible] aq ci Aw Le
def xy (n : Int) : Nat → Dc → List Int → List Int × Dc
 | 0, d, r => (r, d)
 | k + 1, d, r => xy n k d.nxt (xE r [d.val n])
def xC (n pm : Int) : Nat → Dc → List Int → List (List Int) → List Int → Pa × Dc
 | 0, d, o, x, p => (⟨⟨o, x⟩, p⟩, d)
 | k + 1, d, o, x, p => xC n pm k (xy n (1 + d.val 3).toNat d.nxt []).2.nxt.nxt (o ++ [(xy n (1 + d.val 3).toNat d.nxt []).2.val 2]) (x ++ [(xy n (1 + d.val 3).toNat d.nxt []).1]) (p ++ [(xy n (1 + d.val 3).toNat d.nxt []).2.nxt.val pm])
def xF (d : Dc) (most pm : Int) : Pa × Dc:=xC (1 + d.val most) pm (1 + d.val most).toNat d.nxt [] [] []
theorem xN (n : Int) : cS [] n:=fun k hk=>absurd hk (Nat.not_lt_zero _)
theorem xO {x n : Int} (h0 : 0 ≤ x) (h1 : x < n) : cS [x] n:=xz.2 ⟨⟨h0,h1⟩,xN n,fun z hz=>by simp at hz⟩
theorem yJ {n : Int} (hn : 1 ≤ n) : ∀ (k : Nat) (d : Dc) (r : List Int),cS r n → cS (xy n k d r).1 n ∧ (xy n k d r).1.length ≤ r.length + k ∧ (0 < k ∨ r ≠ [] → 1 ≤ (xy n k d r).1.length):=by
 intro k
 induction k with
 | zero => intro d r h; exact ⟨h, Nat.le_refl _, fun h => by rcases h with h | h; (· omega); exact List.length_pos_iff.2 h⟩
 | succ k ih =>
   intro d r h
   have hb:=d.bnd hn
   obtain ⟨h1,h2,h3⟩:=ih d.nxt (xE r [d.val n]) (xQ h (xO hb.1 hb.2))
   have h4:=xM [d.val n] r
   refine ⟨h1,by show (xy n k d.nxt (xE r [d.val n])).1.length ≤ _;simp at h4;omega,fun _=>h3 (.inr fun e=>?_)⟩
   have : d.val n ∈ xE r [d.val n]:=yw.2 (.inr (by simp))
   rw [e] at this;cases this
structure GPart (n pm : Int) (o : List Int) (x : List (List Int)) (p : List Int) : Prop where
 l1 : x.length = o.length
 l2 : p.length = o.length
 at' : ∀ v,v < o.length → (0 ≤ gi o v ∧ gi o v ≤ 1) ∧ (1 ≤ (gr x v).length ∧ (gr x v).length ≤ 3 ∧ cS (gr x v) n) ∧ 0 ≤ gi p v ∧ gi p v < pm
theorem yP {xs : List (List Int)} {y : List Int} {v : Nat} (h : v ≤ xs.length) : gr (xs ++ [y]) v = if v < xs.length then gr xs v else y:=by
 unfold gr
 rw [cA]
 split
 · rfl
 · have : v - xs.length = 0:=by omega
   rw [this];rfl
theorem GPart.snoc {n pm : Int} {o : List Int} {x : List (List Int)} {p : List Int} (h : GPart n pm o x p) {a b : Int} {r : List Int} (ha : 0 ≤ a ∧ a ≤ 1) (hr : 1 ≤ r.length ∧ r.length ≤ 3 ∧ cS r n) (hb : 0 ≤ b ∧ b < pm) : GPart n pm (o ++ [a]) (x ++ [r]) (p ++ [b]):=by
 have h1:=h.l1
 have h2:=h.l2
 refine ⟨by simp [h1],by simp [h2],fun v hv=>?_⟩
 have hv' : v < o.length + 1:=by simpa using hv
 rw [je,je,yP (by omega),h1,h2]
 by_cases e : v < o.length
 · rw [if_pos e,if_pos e,if_pos e];exact h.at' v e
 · have : v = o.length:=by omega
   rw [if_neg e,if_neg e,if_neg e,if_pos this,if_pos this]
   exact ⟨ha,hr,hb⟩
theorem yy {n pm : Int} (hn : 1 ≤ n) (hp : 1 ≤ pm) : ∀ (k : Nat) (d : Dc) (o : List Int) (x : List (List Int)) (p : List Int),GPart n pm o x p →
  GPart n pm (xC n pm k d o x p).1.ar.own (xC n pm k d o x p).1.ar.nxt (xC n pm k d o x p).1.prio ∧ (xC n pm k d o x p).1.ar.own.length = o.length + k:=by
 intro k
 induction k with
 | zero => intro d o x p h; exact ⟨h, rfl⟩
 | succ k ih =>
   intro d o x p h
   have hb:=d.bnd (n:=3) (by omega)
   obtain ⟨h1,h2,h3⟩:=yJ hn (1 + d.val 3).toNat d.nxt [] (xN n)
   have h4:=(xy n (1 + d.val 3).toNat d.nxt []).2.bnd (n:=2) (by omega)
   have h5:=(xy n (1 + d.val 3).toNat d.nxt []).2.nxt.bnd (n:=pm) hp
   have hl : ([] : List Int).length = 0:=rfl
   have:=ih (xy n (1 + d.val 3).toNat d.nxt []).2.nxt.nxt _ _ _ (h.snoc (a:=(xy n (1 + d.val 3).toNat d.nxt []).2.val 2) (b:=(xy n (1 + d.val 3).toNat d.nxt []).2.nxt.val pm) (r:=(xy n (1 + d.val 3).toNat d.nxt []).1) ⟨h4.1,by omega⟩ ⟨h3 (.inl (by omega)),by omega,h1⟩ h5)
   refine ⟨this.1,this.2.trans ?_⟩
   simp;omega
theorem yK {d : Dc} {most pm : Int} (hm : 1 ≤ most ∧ most ≤ 16) (hp : 1 ≤ pm ∧ pm ≤ 41) : PaOk (xF d most pm).1 ∧ ((xF d most pm).1.prio.length : Int) ≤ most ∧ ∀ v,v < (xF d most pm).1.prio.length → gi (xF d most pm).1.prio v < pm:=by
 have hb:=d.bnd hm.1
 obtain ⟨h1,h2⟩:=yy (n:=1 + d.val most) (pm:=pm) (by omega) (by omega) (1 + d.val most).toNat d.nxt [] [] [] ⟨rfl,rfl,fun v hv=>absurd hv (Nat.not_lt_zero _)⟩
 have hl : ([] : List Int).length = 0:=rfl
 have e : xF d most pm = xC (1 + d.val most) pm (1 + d.val most).toNat d.nxt [] [] []:=rfl
 rw [← e] at h1 h2
 have h3:=h1.l1
 have h4:=h1.l2
 refine ⟨⟨⟨by omega,by omega,h3,fun v hv=>?_⟩,h4,fun v hv=>?_⟩,by omega,fun v hv=>?_⟩
 · obtain ⟨a,⟨b1,b2,b3⟩,_⟩:=h1.at' v hv
   refine ⟨a.1,a.2,b1,by omega,fun j hj=>?_⟩
   have:=b3 j hj
   exact ⟨this.1,by omega,this.2.2⟩
 · obtain ⟨_,_,c1,c2⟩:=h1.at' v (by omega)
   exact ⟨c1,by omega⟩
 · exact (h1.at' v (by omega)).2.2.2
def yL (bs : List Int) (seed : Int) : Nat → Int
 | 0 => IntKind.u64.wrap (IntKind.u64.wrap (seed * 7919) + IntKind.u64.wrap bs.length)
 | k + 1 => IntKind.u64.wrap (IntKind.u64.wrap (IntKind.u64.wrap (yL bs seed k * 1099511628211) + IntKind.u64.wrap (gi bs k)) + 3)
def yQ (bs : List Int) (hl : bs.length ≤ 4096) (hb : ∀ j,j < bs.length → 0 ≤ gi bs j ∧ gi bs j ≤ 255) (seed : Int) : Dc:=⟨bs,0,yL bs seed bs.length,hl,hb,by omega⟩
theorem yT (bs : List Int) (hl : bs.length ≤ 4096) (hb : ∀ j,j < bs.length → 0 ≤ gi bs j ∧ gi bs j ≤ 255) (seed : Int) : xA Try.prog 26 (fun _=>[.c (.Y bs),.c (.int .u64 seed)]) [] [] [diE (yQ bs hl hb seed)] (fun ns=>.ad (ns.getD 0 0) 0):=by
 (refine xH aG Try.func26 rfl rfl (fun _=>by kernel_rfl) rfl rfl rfl rfl (by first|exact yb _|exact xR (j:=0) (by simp) (by simp [Ent.kind])|exact xS (j:=0) (by simp) (by simp [Ent.kind])|exact xG rfl|exact xK|exact yc _) fun hp0 ν hX hN=>?_;simp only [cx,Nat.reduceAdd])
 (repeat' (first|(with_reducible first|(apply hK;clear hK K)|refine stZ ?_|refine aM rfl ?_|((first|apply ae|apply af);clear ae X af Y))|(with_reducible refine aP ?_;first|refine aN rfl ?_|refine aO rfl ?_)|(with_reducible refine bU ?_;refine b8 hN ?_)|((with_reducible first|((first|refine aS ?_|refine b9 ?_|refine aT ?_|refine ca ?_);intro K hK)|(refine az ?_;intro X Y ae af)|refine aA ?_);simp (disch:=first|decide|omega|(simp only [List.length_cons,List.length_nil];omega)) only [go_sem,↓am hN,ao hN,reduceIte,reduceCtorEq,Nat.reduceAdd,Nat.reduceLT,Nat.reduceLeDiff,Nat.reduceEqDiff,Nat.reduceSub])|(with_reducible refine And.intro (fun h=>?_) (fun h=>?_) <;> try (exfalso;omega))|(with_reducible refine aR aG hN ?_)|(with_reducible refine bn aG hN ?_)|(with_reducible refine And.intro ?_ ?_)|(refine ak ?_;omega)|(exact aQ hN (by decide))))
 (refine cj (fun (k : Nat)=>(tmL [(6,.c (.int .i64 k)),(5,.ad (ν 0) 0),(0,.c (.Y bs))],hpL hp0 ν [.box [.c (.Y bs),.c (.int .i64 0),.c (.int .u64 (yL bs seed k))]])) (fun (k : Nat)=>k ≤ bs.length) (fun (k : Nat)=>bs.length - k) ⟨0,?_,bA hX hN [] ?_ ?_⟩ ?_;(repeat' (first|(with_reducible first|exact clZ|refine bB ?_ ?_|refine bC ?_ ?_|rfl|refine suZ ?_)|refine bD rfl ?_ ?_|exact aX hN _ rfl rfl rfl|exact aY hN _ rfl rfl rfl|exact aC hN _ rfl rfl rfl (Or.inr rfl)|(refine aU hN _ rfl rfl (by first|exact Or.inr rfl|exact Or.inl rfl) ?_;first|exact aZ _|exact a8 _)|refine aD hN rfl ?_|refine aE hN rfl rfl ?_|exact aB hN _ rfl rfl|exact aF hN rfl rfl rfl rfl|(with_reducible first|refine stZ ?_|refine aW ?_)));(try (any_goals (first|(with_reducible rfl)|(refine ak ?_;omega)))))
 · rfl
 intro k hk
 (repeat' (first|(with_reducible first|(apply hK;clear hK K)|refine stZ ?_|refine aM rfl ?_|((first|apply ae|apply af);clear ae X af Y))|(with_reducible refine aP ?_;first|refine aN rfl ?_|refine aO rfl ?_)|(with_reducible refine bU ?_;refine b8 hN ?_)|((with_reducible first|((first|refine aS ?_|refine b9 ?_|refine aT ?_|refine ca ?_);intro K hK)|(refine az ?_;intro X Y ae af)|refine aA ?_);simp (disch:=first|decide|omega|(simp only [List.length_cons,List.length_nil];omega)) only [go_sem,↓am hN,ao hN,reduceIte,reduceCtorEq,Nat.reduceAdd,Nat.reduceLT,Nat.reduceLeDiff,Nat.reduceEqDiff,Nat.reduceSub])|(with_reducible refine And.intro (fun h=>?_) (fun h=>?_) <;> try (exfalso;omega))|(with_reducible refine aR aG hN ?_)|(with_reducible refine bn aG hN ?_)|(with_reducible refine And.intro ?_ ?_)|(refine ak ?_;omega)|(exact aQ hN (by decide))))
 · (refine ⟨k + 1,⟨?_,?_⟩,bA hX hN [] ?_ ?_⟩;(try any_goals dsimp only);(repeat' (first|(with_reducible first|exact clZ|refine bB ?_ ?_|refine bC ?_ ?_|rfl|refine suZ ?_)|refine bD rfl ?_ ?_|exact aX hN _ rfl rfl rfl|exact aY hN _ rfl rfl rfl|exact aC hN _ rfl rfl rfl (Or.inr rfl)|(refine aU hN _ rfl rfl (by first|exact Or.inr rfl|exact Or.inl rfl) ?_;first|exact aZ _|exact a8 _)|refine aD hN rfl ?_|refine aE hN rfl rfl ?_|exact aB hN _ rfl rfl|exact aF hN rfl rfl rfl rfl|(with_reducible first|refine stZ ?_|refine aW ?_)));(try (any_goals (first|(with_reducible rfl)|(refine ak ?_;omega)))))
   rfl
 · (refine ⟨.inr rfl,_,(by first|exact b7 rfl rfl|exact bL hN rfl rfl rfl rfl|exact bF hN rfl rfl rfl rfl rfl|(simp (disch:=first|decide|omega|(simp only [List.length_cons,List.length_nil];omega)) only [bK,bS,bV,bY,go_sem,beq_self_eq_true,↓au,↓am hN,ao hN,reduceIte,reduceCtorEq,Nat.reduceAdd,Nat.reduceLT,Nat.reduceLeDiff,Nat.reduceEqDiff,Nat.reduceSub];rfl)|rfl),[],_,rfl,?_,rfl,?_⟩;(all_goals try simp only [List.drop,List.take,List.cons_append,List.nil_append,nmL,List.length_cons,List.length_nil,Nat.reduceAdd,List.getD_cons_zero]);(repeat' (first|(with_reducible first|exact clZ|refine bB ?_ ?_|refine bC ?_ ?_|rfl|refine suZ ?_)|refine bD rfl ?_ ?_|exact aX hN _ rfl rfl rfl|exact aY hN _ rfl rfl rfl|exact aC hN _ rfl rfl rfl (Or.inr rfl)|(refine aU hN _ rfl rfl (by first|exact Or.inr rfl|exact Or.inl rfl) ?_;first|exact aZ _|exact a8 _)|refine aD hN rfl ?_|refine aE hN rfl rfl ?_|exact aB hN _ rfl rfl|exact aF hN rfl rfl rfl rfl|(with_reducible first|refine stZ ?_|refine aW ?_))))
   all_goals first|rfl|(rw [show k = bs.length by omega];rfl)
theorem yM (d : Dc) (most : Int) (hm : 1 ≤ most ∧ most ≤ 16) : xA Try.prog 27 (fun ν=>[.ad (ν 0) 0,.c (.int .i64 most)]) [diE d] [diE (xF d most 6).2] [] (fun _=>paA (xF d most 6).1):=by
 have hb:=d.bnd hm.1
 (refine xH aG Try.func27 rfl rfl (fun _=>by kernel_rfl) rfl rfl rfl rfl (by first|exact yb _|exact xR (j:=0) (by simp) (by simp [Ent.kind])|exact xS (j:=0) (by simp) (by simp [Ent.kind])|exact xG rfl|exact xK|exact yc _) fun hp0 ν hX hN=>?_;simp only [cx,Nat.reduceAdd])
 (repeat' (first|(with_reducible first|(apply hK;clear hK K)|refine stZ ?_|refine aM rfl ?_|((first|apply ae|apply af);clear ae X af Y))|(with_reducible refine aP ?_;first|refine aN rfl ?_|refine aO rfl ?_)|(with_reducible refine bU ?_;refine b8 hN ?_)|((with_reducible first|((first|refine aS ?_|refine b9 ?_|refine aT ?_|refine ca ?_);intro K hK)|(refine az ?_;intro X Y ae af)|refine aA ?_);simp (disch:=first|decide|omega|(simp only [List.length_cons,List.length_nil];omega)) only [go_sem,↓am hN,ao hN,reduceIte,reduceCtorEq,Nat.reduceAdd,Nat.reduceLT,Nat.reduceLeDiff,Nat.reduceEqDiff,Nat.reduceSub])|(with_reducible refine And.intro (fun h=>?_) (fun h=>?_) <;> try (exfalso;omega))|(with_reducible refine aR aG hN ?_)|(with_reducible refine bn aG hN ?_)|(refine xD (xJ d most (by omega)) hN 0 rfl rfl rfl rfl rfl ?_ ?_ ?_ ?_;(focus (simp [bI,AV.names];done));(focus (intro ν' hν;(repeat' (first|exact ArgMs.nil|refine ArgMs.cons ?_ ?_|exact x4 hν|exact x5 hν|exact ym _|exact yh (by first|exact bz _|exact bt _|exact bu rfl rfl rfl) rfl|(refine x6 hN rfl ?_ (by decide);first|exact aZ _|exact a8 _)|refine xI ?_));done));(focus (first|exact Or.inr ⟨rfl,rfl,fun _=>rfl⟩|exact Or.inl (by simp [bI,AV.names]))))|(with_reducible first|exact aV|refine aJ ?_ ?_|exact cF _|refine bv ?_|exact bz _|exact bR _ _|refine bQ ?_|exact bt _)|exact bw hN rfl rfl|(refine bP hN rfl ?_;first|exact aZ _|exact a8 _)|exact bu rfl rfl rfl|(simp only [ba,List.map_nil])|(with_reducible refine bo ?_)|(simp (disch:=first|decide|omega|(simp only [List.length_cons,List.length_nil];omega)) only [ba,List.map_cons,List.map_nil,ao hN,List.set_cons_zero,List.set_cons_succ])|(with_reducible refine And.intro ?_ ?_)|(refine ak ?_;omega)|(exact aQ hN (by decide))))
 have hm2:=hm.2
 generalize hn : 1 + d.val most = n at *
 have hn0 : 1 ≤ n ∧ n ≤ 16:=by omega
 have hG : xF d most 6 = xC n 6 n.toNat d.nxt [] [] []:=by unfold xF;rw [hn]
 generalize xF d most 6 = G at *
 (refine cj (fun (x : Nat × Dc × List Int × List (List Int) × List Int)=>(tmL [(7,.c (.int .i64 x.1)),(6,.ad (ν 2) 0),(5,.c (.int .i64 n)),(4,.ad (ν 1) 0),(0,.ad (ν 0) 0)],hpL hp0 ν [diE x.2.1,.box [.c .nul,.c .nul,.c .nul],.box [.sl (ν 3),.sl (ν 4),.sl (ν 5)],.arr 2 .may (.I x.2.2.1),.arr 22 .may (.R x.2.2.2.1),.arr 2 .may (.I x.2.2.2.2)])) (fun (x : Nat × Dc × List Int × List (List Int) × List Int)=>((x.1 : Int) ≤ n ∧ x.2.2.1.length = x.1 ∧ x.2.2.2.1.length = x.1 ∧ x.2.2.2.2.length = x.1) ∧ xC n 6 (n.toNat - x.1) x.2.1 x.2.2.1 x.2.2.2.1 x.2.2.2.2 = G) (fun (x : Nat × Dc × List Int × List (List Int) × List Int)=>n.toNat - x.1) ⟨(0,d.nxt,[],[],[]),?_,bA hX hN [] ?_ ?_⟩ ?_;(repeat' (first|(with_reducible first|exact clZ|refine bB ?_ ?_|refine bC ?_ ?_|rfl|refine suZ ?_)|refine bD rfl ?_ ?_|exact aX hN _ rfl rfl rfl|exact aY hN _ rfl rfl rfl|exact aC hN _ rfl rfl rfl (Or.inr rfl)|(refine aU hN _ rfl rfl (by first|exact Or.inr rfl|exact Or.inl rfl) ?_;first|exact aZ _|exact a8 _)|refine aD hN rfl ?_|refine aE hN rfl rfl ?_|exact aB hN _ rfl rfl|exact aF hN rfl rfl rfl rfl|(with_reducible first|refine stZ ?_|refine aW ?_)));(try (any_goals (first|(with_reducible rfl)|(refine ak ?_;omega)))))
 · exact ⟨⟨by omega,rfl,rfl,rfl⟩,hG.symm⟩
 rintro ⟨v,dd,o,xx,p⟩ ⟨⟨hv,h1,h2,h3⟩,hGo⟩
 simp only at hv h1 h2 h3 hGo
 dsimp only
 have hb3:=dd.bnd (n:=3) (by omega)
 (repeat' (first|(with_reducible first|(apply hK;clear hK K)|refine stZ ?_|refine aM rfl ?_|((first|apply ae|apply af);clear ae X af Y))|(with_reducible refine aP ?_;first|refine aN rfl ?_|refine aO rfl ?_)|(with_reducible refine bU ?_;refine b8 hN ?_)|((with_reducible first|((first|refine aS ?_|refine b9 ?_|refine aT ?_|refine ca ?_);intro K hK)|(refine az ?_;intro X Y ae af)|refine aA ?_);simp (disch:=first|decide|omega|(simp only [List.length_cons,List.length_nil];omega)) only [go_sem,↓am hN,ao hN,reduceIte,reduceCtorEq,Nat.reduceAdd,Nat.reduceLT,Nat.reduceLeDiff,Nat.reduceEqDiff,Nat.reduceSub])|(with_reducible refine And.intro (fun h=>?_) (fun h=>?_) <;> try (exfalso;omega))|(with_reducible refine aR aG hN ?_)|(with_reducible refine bn aG hN ?_)|(refine xD (xJ dd 3 (by omega)) hN 0 rfl rfl rfl rfl rfl ?_ ?_ ?_ ?_;(focus (simp [bI,AV.names];done));(focus (intro ν' hν;(repeat' (first|exact ArgMs.nil|refine ArgMs.cons ?_ ?_|exact x4 hν|exact x5 hν|exact ym _|exact yh (by first|exact bz _|exact bt _|exact bu rfl rfl rfl) rfl|(refine x6 hN rfl ?_ (by decide);first|exact aZ _|exact a8 _)|refine xI ?_));done));(focus (first|exact Or.inr ⟨rfl,rfl,fun _=>rfl⟩|exact Or.inl (by simp [bI,AV.names]))))|(with_reducible first|exact aV|refine aJ ?_ ?_|exact cF _|refine bv ?_|exact bz _|exact bR _ _|refine bQ ?_|exact bt _)|exact bw hN rfl rfl|(refine bP hN rfl ?_;first|exact aZ _|exact a8 _)|exact bu rfl rfl rfl|(simp only [ba,List.map_nil])|(with_reducible refine bo ?_)|(simp (disch:=first|decide|omega|(simp only [List.length_cons,List.length_nil];omega)) only [ba,List.map_cons,List.map_nil,ao hN,List.set_cons_zero,List.set_cons_succ])|(with_reducible refine And.intro ?_ ?_)|(refine ak ?_;omega)|(exact aQ hN (by decide))))
 · have hvn : (v : Int) < n:=by assumption
   have hgo1 : n.toNat - v = (n.toNat - (v + 1)) + 1:=by omega
   rw [hgo1,xC] at hGo
   generalize hR : xy n (1 + dd.val 3).toNat dd.nxt [] = R at hGo
   (refine cj (fun (z : Nat × Dc × List Int)=>(tmL [(9,.c (.int .i64 z.1)),(8,.c (.I z.2.2)),(7,.c (.int .i64 v)),(6,.ad (ν 2) 0),(5,.c (.int .i64 n)),(4,.ad (ν 1) 0),(0,.ad (ν 0) 0)],hpL hp0 ν [diE z.2.1,.box [.c .nul,.c .nul,.c .nul],.box [.sl (ν 3),.sl (ν 4),.sl (ν 5)],.arr 2 .may (.I o),.arr 22 .may (.R xx),.arr 2 .may (.I p)])) (fun (z : Nat × Dc × List Int)=>(z.2.2.length + z.1 ≤ 3 ∧ cS z.2.2 n) ∧ xy n z.1 z.2.1 z.2.2 = R) (fun (z : Nat × Dc × List Int)=>z.1) ⟨((1 + dd.val 3).toNat,dd.nxt,[]),?_,bA hX hN [] ?_ ?_⟩ ?_;(repeat' (first|(with_reducible first|exact clZ|refine bB ?_ ?_|refine bC ?_ ?_|rfl|refine suZ ?_)|refine bD rfl ?_ ?_|exact aX hN _ rfl rfl rfl|exact aY hN _ rfl rfl rfl|exact aC hN _ rfl rfl rfl (Or.inr rfl)|(refine aU hN _ rfl rfl (by first|exact Or.inr rfl|exact Or.inl rfl) ?_;first|exact aZ _|exact a8 _)|refine aD hN rfl ?_|refine aE hN rfl rfl ?_|exact aB hN _ rfl rfl|exact aF hN rfl rfl rfl rfl|(with_reducible first|refine stZ ?_|refine aW ?_)));(try (any_goals (first|(with_reducible rfl)|(refine ak ?_;omega)))))
   · exact ⟨⟨by simp;omega,xN n⟩,hR⟩
   rintro ⟨m,de,row⟩ ⟨⟨hm1,hm2⟩,hRo⟩
   simp only at hm1 hm2 hRo
   dsimp only
   have hbn:=de.bnd (n:=n) (by omega)
   have hR2:=R.2.bnd (n:=2) (by omega)
   have hR3:=R.2.nxt.bnd (n:=6) (by omega)
   have hs256 : cS row 256:=fun k hk=>by have:=hm2 k hk;exact ⟨this.1,by omega,this.2.2⟩
   (repeat' (first|(with_reducible first|(apply hK;clear hK K)|refine stZ ?_|refine aM rfl ?_|((first|apply ae|apply af);clear ae X af Y))|(with_reducible refine aP ?_;first|refine aN rfl ?_|refine aO rfl ?_)|(with_reducible refine bU ?_;refine b8 hN ?_)|((with_reducible first|((first|refine aS ?_|refine b9 ?_|refine aT ?_|refine ca ?_);intro K hK)|(refine az ?_;intro X Y ae af)|refine aA ?_);simp (disch:=first|decide|omega|(simp only [List.length_cons,List.length_nil];omega)) only [go_sem,↓am hN,ao hN,reduceIte,reduceCtorEq,Nat.reduceAdd,Nat.reduceLT,Nat.reduceLeDiff,Nat.reduceEqDiff,Nat.reduceSub])|(with_reducible refine And.intro (fun h=>?_) (fun h=>?_) <;> try (exfalso;omega))|(with_reducible refine aR aG hN ?_)|(with_reducible refine bn aG hN ?_)|(refine xD (xJ de n (by omega)) hN 0 rfl rfl rfl rfl rfl ?_ ?_ ?_ ?_;(focus (simp [bI,AV.names];done));(focus (intro ν' hν;(repeat' (first|exact ArgMs.nil|refine ArgMs.cons ?_ ?_|exact x4 hν|exact x5 hν|exact ym _|exact yh (by first|exact bz _|exact bt _|exact bu rfl rfl rfl) rfl|(refine x6 hN rfl ?_ (by decide);first|exact aZ _|exact a8 _)|refine xI ?_));done));(focus (first|exact Or.inr ⟨rfl,rfl,fun _=>rfl⟩|exact Or.inl (by simp [bI,AV.names]))))|(refine yF (yx row [de.val n] hs256 (xO (by omega) (by omega))) hN 6 ?_ rfl rfl rfl ?_;focus ((repeat' (first|(with_reducible first|exact aV|refine aJ ?_ ?_|exact cF _|refine bv ?_|exact bz _|exact bR _ _|refine bQ ?_|exact bt _)|exact bw hN rfl rfl|(refine bP hN rfl ?_;first|exact aZ _|exact a8 _)|exact bu rfl rfl rfl));done))|(refine xD (xJ de 2 (by omega)) hN 0 rfl rfl rfl rfl rfl ?_ ?_ ?_ ?_;(focus (simp [bI,AV.names];done));(focus (intro ν' hν;(repeat' (first|exact ArgMs.nil|refine ArgMs.cons ?_ ?_|exact x4 hν|exact x5 hν|exact ym _|exact yh (by first|exact bz _|exact bt _|exact bu rfl rfl rfl) rfl|(refine x6 hN rfl ?_ (by decide);first|exact aZ _|exact a8 _)|refine xI ?_));done));(focus (first|exact Or.inr ⟨rfl,rfl,fun _=>rfl⟩|exact Or.inl (by simp [bI,AV.names]))))|(refine xD (xJ de.nxt 6 (by omega)) hN 0 rfl rfl rfl rfl rfl ?_ ?_ ?_ ?_;(focus (simp [bI,AV.names];done));(focus (intro ν' hν;(repeat' (first|exact ArgMs.nil|refine ArgMs.cons ?_ ?_|exact x4 hν|exact x5 hν|exact ym _|exact yh (by first|exact bz _|exact bt _|exact bu rfl rfl rfl) rfl|(refine x6 hN rfl ?_ (by decide);first|exact aZ _|exact a8 _)|refine xI ?_));done));(focus (first|exact Or.inr ⟨rfl,rfl,fun _=>rfl⟩|exact Or.inl (by simp [bI,AV.names]))))|(with_reducible first|exact aV|refine aJ ?_ ?_|exact cF _|refine bv ?_|exact bz _|exact bR _ _|refine bQ ?_|exact bt _)|exact bw hN rfl rfl|(refine bP hN rfl ?_;first|exact aZ _|exact a8 _)|exact bu rfl rfl rfl|(simp only [ba,List.map_nil])|(with_reducible refine bo ?_)|(simp (disch:=first|decide|omega|(simp only [List.length_cons,List.length_nil];omega)) only [ba,List.map_cons,List.map_nil,ao hN,List.set_cons_zero,List.set_cons_succ])|(with_reducible refine And.intro ?_ ?_)|(refine ak ?_;omega)|(exact aQ hN (by decide))))
   · have hm0 : 0 < m:=by omega
     have hbl:=xM [de.val n] row
     rw [show m = (m - 1) + 1 by omega,xy] at hRo
     (refine ⟨(m - 1,de.nxt,xE row [de.val n]),⟨?_,?_⟩,bA hX hN [] ?_ ?_⟩;(try any_goals dsimp only);(repeat' (first|(with_reducible first|exact clZ|refine bB ?_ ?_|refine bC ?_ ?_|rfl|refine suZ ?_)|refine bD rfl ?_ ?_|exact aX hN _ rfl rfl rfl|exact aY hN _ rfl rfl rfl|exact aC hN _ rfl rfl rfl (Or.inr rfl)|(refine aU hN _ rfl rfl (by first|exact Or.inr rfl|exact Or.inl rfl) ?_;first|exact aZ _|exact a8 _)|refine aD hN rfl ?_|refine aE hN rfl rfl ?_|exact aB hN _ rfl rfl|exact aF hN rfl rfl rfl rfl|(with_reducible first|refine stZ ?_|refine aW ?_)));(try (any_goals (first|(with_reducible rfl)|(refine ak ?_;omega)))))
     exact ⟨⟨by simp at hbl ⊢;omega,xQ hm2 (xO hbn.1 hbn.2)⟩,hRo⟩
   · have hm0 : m = 0:=by omega
     subst hm0
     rw [xy] at hRo
     subst hRo
     (refine ⟨(v + 1,de.nxt.nxt,o ++ [de.val 2],xx ++ [row],p ++ [de.nxt.val 6]),⟨?_,?_⟩,bA hX hN [(3,7),(4,9),(5,11)] ?_ ?_⟩;(try any_goals dsimp only);(repeat' (first|(with_reducible first|exact clZ|refine bB ?_ ?_|refine bC ?_ ?_|rfl|refine suZ ?_)|refine bD rfl ?_ ?_|exact aX hN _ rfl rfl rfl|exact aY hN _ rfl rfl rfl|exact aC hN _ rfl rfl rfl (Or.inr rfl)|(refine aU hN _ rfl rfl (by first|exact Or.inr rfl|exact Or.inl rfl) ?_;first|exact aZ _|exact a8 _)|refine aD hN rfl ?_|refine aE hN rfl rfl ?_|exact aB hN _ rfl rfl|exact aF hN rfl rfl rfl rfl|(with_reducible first|refine stZ ?_|refine aW ?_)));(try (any_goals (first|(with_reducible rfl)|(refine ak ?_;omega)))))
     exact ⟨⟨by omega,by simp [h1],by simp [h2],by simp [h3]⟩,hGo⟩
 · rw [show n.toNat - v = 0 by omega,xC] at hGo
   subst hGo
   (refine ⟨.inr rfl,_,(by first|exact b7 rfl rfl|exact bL hN rfl rfl rfl rfl|exact bF hN rfl rfl rfl rfl rfl|(simp (disch:=first|decide|omega|(simp only [List.length_cons,List.length_nil];omega)) only [bK,bS,bV,bY,go_sem,beq_self_eq_true,↓au,↓am hN,ao hN,reduceIte,reduceCtorEq,Nat.reduceAdd,Nat.reduceLT,Nat.reduceLeDiff,Nat.reduceEqDiff,Nat.reduceSub];rfl)|rfl),[],_,rfl,?_,rfl,?_⟩;(all_goals try simp only [List.drop,List.take,List.cons_append,List.nil_append,nmL,List.length_cons,List.length_nil,Nat.reduceAdd,List.getD_cons_zero]);(repeat' (first|(with_reducible first|exact clZ|refine bB ?_ ?_|refine bC ?_ ?_|rfl|refine suZ ?_)|refine bD rfl ?_ ?_|exact aX hN _ rfl rfl rfl|exact aY hN _ rfl rfl rfl|exact aC hN _ rfl rfl rfl (Or.inr rfl)|(refine aU hN _ rfl rfl (by first|exact Or.inr rfl|exact Or.inl rfl) ?_;first|exact aZ _|exact a8 _)|refine aD hN rfl ?_|refine aE hN rfl rfl ?_|exact aB hN _ rfl rfl|exact aF hN rfl rfl rfl rfl|(with_reducible first|refine stZ ?_|refine aW ?_))))
end Go.Proofs.Ytiadchinhofieaa
