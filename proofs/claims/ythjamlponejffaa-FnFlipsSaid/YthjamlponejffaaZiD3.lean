/-
  The games, the plans that the dice draw.
-/
import Derived.Test.YthjamlponejffaaZiFc
import Derived.Test.YthjamlponejffaaZiG3
import Derived.Test.YthjamlponejffaaZiKf
namespace Go.Proofs.Ythjamlponejffaa
set_option linter.unusedVariables false
set_option linter.unusedSimpArgs false
open Go.RowKit
attribute [local irreducible] ap b9 Aw Le
structure Dc where
 bs : List Int
 i : Int
 h : Int
 len : bs.length ≤ 4096
 byt : ∀ j,j < bs.length → 0 ≤ gi bs j ∧ gi bs j ≤ 255
 ok : 0 ≤ i ∧ i ≤ bs.length
def dH (h : Int) : Int:=IntKind.u64.wrap (IntKind.u64.wrap (h * 6364136223846793005) + 1442695040888963407)
def dX (h : Int) : Int:=IntKind.i64.wrap (no .u64 (qc .u64 (dH h) 33) 16777215)
def Dc.nxt (d : Dc) : Dc:=⟨d.bs,if d.i < d.bs.length then d.i + 1 else d.i,dH d.h,d.len,d.byt,by have:=d.ok;split <;> omega⟩
def Dc.val (d : Dc) (n : Int) : Int:=(if d.i < d.bs.length then IntKind.i64.wrap (dX d.h + IntKind.i64.wrap (gi d.bs d.i.toNat)) else dX d.h).tmod n
abbrev diE (d : Dc) : Ent:=.box [.c (.Y d.bs),.c (.int .i64 d.i),.c (.int .u64 d.h)]
theorem sf (h : Int) : 0 ≤ dX h ∧ dX h ≤ 16777215:=by
 have h1 : ∀ a : Int,0 ≤ no .u64 a 16777215 ∧ no .u64 a 16777215 ≤ 16777215:=fun a=>by
  unfold no
  have h2 : (BitVec.ofInt IntKind.u64.bits a &&& BitVec.ofInt IntKind.u64.bits 16777215).toNat ≤ 16777215:=by
   rw [BitVec.toNat_and]
   exact Nat.le_trans Nat.and_le_right (by decide)
  generalize (BitVec.ofInt IntKind.u64.bits a &&& BitVec.ofInt IntKind.u64.bits 16777215).toNat = m at *
  rw [show IntKind.u64.wrap (m : Int) = m by simp [IntKind.wrap,IntKind.bits,IntKind.signed];omega]
  omega
 obtain ⟨h2,h3⟩:=h1 (qc .u64 (dH h) 33)
 unfold dX
 rw [qI (by omega)]
 exact ⟨h2,h3⟩
theorem Dc.bnd (d : Dc) {n : Int} (hn : 1 ≤ n) : 0 ≤ d.val n ∧ d.val n < n:=by
 have hx:=sf d.h
 have hv : 0 ≤ (if d.i < d.bs.length then IntKind.i64.wrap (dX d.h + IntKind.i64.wrap (gi d.bs d.i.toNat)) else dX d.h):=by
  split
  · rename_i h
    have hb:=d.byt d.i.toNat (by have:=d.ok;omega)
    rw [qI (n:=gi d.bs d.i.toNat) (by omega),qI (by omega)]
    omega
  · exact hx.1
 unfold Dc.val
 rw [Int.tmod_eq_emod_of_nonneg hv]
 exact ⟨Int.emod_nonneg _ (by omega),Int.emod_lt_of_pos _ (by omega)⟩
theorem gw (d : Dc) (n : Int) (hn : 1 ≤ n ∧ n ≤ 1125899906842624) : d3 Try.prog 27 (fun ν=>[.ad (ν 0) 0,.c (.int .i64 n)]) [diE d] [diE d.nxt] [] (fun _=>.c (.int .i64 (d.val n))):=by
 obtain ⟨bs,i,h0,hl,hb,hi⟩:=d
 (refine fX aQ Try.func27 rfl rfl (fun _=>by kernel_rfl) rfl rfl rfl rfl (by first|exact kf _|exact iG (j:=0) (by simp) (by simp [Ent.kind])|exact iH (j:=0) (by simp) (by simp [Ent.kind])|exact fW rfl|exact gI|exact kg _) fun hp0 ν hX hN=>?_;simp only [cG,Nat.reduceAdd])
 (repeat' (first|(with_reducible first|(apply hK;clear hK K)|refine stZ ?_|refine aZ rfl ?_|((first|apply ae|apply af);clear ae X af Y))|(with_reducible refine bc ?_;first|refine a8 rfl ?_|refine ba rfl ?_)|(with_reducible refine cm ?_;refine cr hN ?_)|((with_reducible first|((first|refine bf ?_|refine ct ?_|refine bg ?_|refine cw ?_);intro K hK)|(refine aN ?_;intro X Y ae af)|refine aO ?_);simp (disch:=first|decide|omega|(simp only [List.length_cons,List.length_nil];omega)) only [go_sem,↓ah hN,ak hN,reduceIte,reduceCtorEq,Nat.reduceAdd,Nat.reduceLT,Nat.reduceLeDiff,Nat.reduceEqDiff,Nat.reduceSub])|(with_reducible refine And.intro (fun h=>?_) (fun h=>?_) <;> try (exfalso;omega))|(with_reducible refine be aQ hN ?_)|(with_reducible refine bB aQ hN ?_)|(with_reducible refine And.intro ?_ ?_)|(refine aj ?_;omega)|(exact bd hN (by decide))))
 · (refine ⟨.inr rfl,_,(by first|exact cB rfl rfl|exact ce hN rfl rfl rfl rfl|exact bO hN rfl rfl rfl rfl rfl|(simp (disch:=first|decide|omega|(simp only [List.length_cons,List.length_nil];omega)) only [bS,cc,ch,cj,go_sem,beq_self_eq_true,↓ax,↓ah hN,ak hN,reduceIte,reduceCtorEq,Nat.reduceAdd,Nat.reduceLT,Nat.reduceLeDiff,Nat.reduceEqDiff,Nat.reduceSub];rfl)|rfl),[],_,rfl,?_,rfl,?_⟩;(all_goals try simp only [List.drop,List.take,List.cons_append,List.nil_append,nmL,List.length_cons,List.length_nil,Nat.reduceAdd,List.getD_cons_zero]);(repeat' (first|(with_reducible first|exact clZ|refine bv ?_ ?_|refine bw ?_ ?_|rfl|refine suZ ?_)|refine bz rfl ?_ ?_|exact aU hN _ rfl rfl rfl|exact aV hN _ rfl rfl rfl|exact az hN _ rfl rfl rfl (Or.inr rfl)|(refine aW hN _ rfl rfl (by first|exact Or.inr rfl|exact Or.inl rfl) ?_;first|exact aF _|exact aG _)|refine aA hN rfl ?_|refine aB hN rfl rfl ?_|exact ay hN _ rfl rfl|exact aC hN rfl rfl rfl rfl|(with_reducible first|refine stZ ?_|refine aT ?_))))
   all_goals simp [Dc.nxt,Dc.val,dX,dH, *]
 · (refine ⟨.inr rfl,_,(by first|exact cB rfl rfl|exact ce hN rfl rfl rfl rfl|exact bO hN rfl rfl rfl rfl rfl|(simp (disch:=first|decide|omega|(simp only [List.length_cons,List.length_nil];omega)) only [bS,cc,ch,cj,go_sem,beq_self_eq_true,↓ax,↓ah hN,ak hN,reduceIte,reduceCtorEq,Nat.reduceAdd,Nat.reduceLT,Nat.reduceLeDiff,Nat.reduceEqDiff,Nat.reduceSub];rfl)|rfl),[],_,rfl,?_,rfl,?_⟩;(all_goals try simp only [List.drop,List.take,List.cons_append,List.nil_append,nmL,List.length_cons,List.length_nil,Nat.reduceAdd,List.getD_cons_zero]);(repeat' (first|(with_reducible first|exact clZ|refine bv ?_ ?_|refine bw ?_ ?_|rfl|refine suZ ?_)|refine bz rfl ?_ ?_|exact aU hN _ rfl rfl rfl|exact aV hN _ rfl rfl rfl|exact az hN _ rfl rfl rfl (Or.inr rfl)|(refine aW hN _ rfl rfl (by first|exact Or.inr rfl|exact Or.inl rfl) ?_;first|exact aF _|exact aG _)|refine aA hN rfl ?_|refine aB hN rfl rfl ?_|exact ay hN _ rfl rfl|exact aC hN rfl rfl rfl rfl|(with_reducible first|refine stZ ?_|refine aT ?_))))
   all_goals simp [Dc.nxt,Dc.val,dX,dH, *]
end Go.Proofs.Ythjamlponejffaa
namespace Go.Proofs.Ythjamlponejffaa
set_option linter.unusedVariables false
set_option linter.unusedSimpArgs false
open Go.RowKit
attribute [local irreducible] ap b9 Aw Le
def d4 : List Int → Int → List Int
 | [], x => [x]
 | y :: ys, x => if y < x then y :: d4 ys x else if y = x then y :: ys else x :: y :: ys
theorem lq {x z : Int} : ∀ {xs : List Int},z ∈ d4 xs x ↔ z = x ∨ z ∈ xs:=by
 intro xs
 induction xs with
 | nil => simp [d4]
 | cons y ys ih =>
   unfold d4
   split
   · rw [List.mem_cons,ih,List.mem_cons]
     exact ⟨fun h=>h.elim (fun h=>.inr (.inl h)) fun h=>h.elim .inl fun h=>.inr (.inr h),fun h=>h.elim (fun h=>.inr (.inl h)) fun h=>h.elim .inl fun h=>.inr (.inr h)⟩
   · split
     · rename_i _ h;subst h
       exact ⟨fun h=>.inr h,fun h=>h.elim (fun h=>by rw [h];exact List.mem_cons_self) id⟩
     · rw [List.mem_cons]
theorem pM (x : Int) : ∀ xs : List Int,(d4 xs x).length ≤ xs.length + 1:=by
 intro xs
 induction xs with
 | nil => simp [d4]
 | cons y ys ih =>
   unfold d4
   split
   · simp;omega
   · split
     · simp
     · simp
theorem kn {x : Int} : ∀ {xs : List Int} {k : Nat},k ≤ xs.length → (∀ j,j < k → gi xs j < x) → (k < xs.length → ¬ gi xs k < x) → d4 xs x = if k < xs.length ∧ gi xs k = x then xs else xs.take k ++ x :: xs.drop k:=by
 intro xs
 induction xs with
 | nil =>
   intro k hk _ _
   have : k = 0:=by simpa using hk
   subst this;rfl
 | cons y ys ih =>
   intro k hk h1 h2
   cases k with
   | zero =>
     have h3 : ¬ y < x:=h2 (by simp)
     unfold d4
     rw [if_neg h3]
     by_cases h4 : y = x
     · rw [if_pos h4,if_pos ⟨by simp,h4⟩]
     · rw [if_neg h4,if_neg fun h=>h4 h.2];rfl
   | succ k =>
     have h3 : y < x:=h1 0 (by omega)
     unfold d4
     rw [if_pos h3,ih (k:=k) (by simpa using hk) (fun j hj=>h1 (j + 1) (by omega)) (fun h=>h2 (by simpa using h))]
     by_cases h5 : k < ys.length ∧ gi ys k = x
     · rw [if_pos h5,if_pos ⟨by simpa using h5.1,h5.2⟩]
     · rw [if_neg h5,if_neg fun h=>h5 ⟨by simpa using h.1,h.2⟩];rfl
theorem dq {y m : Int} {ys : List Int} : bC (y :: ys) m ↔ (0 ≤ y ∧ y < m) ∧ bC ys m ∧ ∀ z,z ∈ ys → y < z:=by
 constructor
 · intro h
   have h0:=h 0 (by simp)
   refine ⟨⟨h0.1,h0.2.1⟩,fun k hk=>?_,fun z hz=>?_⟩
   · have:=h (k + 1) (by simpa using hk)
     refine ⟨this.1,this.2.1,fun hk0=>?_⟩
     have h2:=this.2.2 (by omega)
     obtain ⟨j,rfl⟩ : ∃ j,k = j + 1:=⟨k - 1,by omega⟩
     exact h2
   · obtain ⟨j,hj,e⟩:=dS hz
     have key : ∀ j,j < ys.length → y < gi ys j:=by
      intro j
      induction j with
      | zero => intro hj; exact (h 1 (by simp; omega)).2.2 (by omega)
      | succ j ih =>
        intro hj
        have:=ih (by omega)
        have h2:=(h (j + 2) (by simp;omega)).2.2 (by omega)
        have h3 : gi ys j < gi ys (j + 1):=h2
        omega
     rw [← e];exact key j hj
 · rintro ⟨⟨h1,h2⟩,h3,h4⟩ k hk
   cases k with
   | zero => exact ⟨h1, h2, fun h => by omega⟩
   | succ k =>
     have hk' : k < ys.length:=by simpa using hk
     obtain ⟨a,b,c⟩:=h3 k hk'
     refine ⟨a,b,fun _=>?_⟩
     cases k with
     | zero => exact h4 _ (dz hk')
     | succ k => exact c (by omega)
theorem mq {x m : Int} (h0 : 0 ≤ x) (h1 : x < m) : ∀ {xs : List Int},bC xs m → bC (d4 xs x) m:=by
 intro xs
 induction xs with
 | nil => intro _; exact dq.2 ⟨⟨h0, h1⟩, fun k hk => absurd hk (Nat.not_lt_zero _), fun z hz => by simp at hz⟩
 | cons y ys ih =>
   intro h
   obtain ⟨a,b,c⟩:=dq.1 h
   unfold d4
   split
   · refine dq.2 ⟨a,ih b,fun z hz=>?_⟩
     rcases lq.1 hz with rfl|hz
     · assumption
     · exact c z hz
   · split
     · exact h
     · refine dq.2 ⟨⟨h0,h1⟩,h,fun z hz=>?_⟩
       rcases List.mem_cons.1 hz with rfl|hz
       · omega
       · have:=c z hz;omega
theorem pN (xs : List Int) (x : Int) (hl : xs.length ≤ 65536) : ap Try.prog 103 [.c (.I xs),.c (.int .i64 x)] [] (fun _=>.c (.I (d4 xs x))):=by
 (refine bA aQ Try.func103 rfl rfl (by kernel_rfl) fun hp0 ν hX hN=>?_;simp only [cG,Nat.reduceAdd])
 (repeat' (first|(with_reducible first|(apply hK;clear hK K)|refine stZ ?_|refine aZ rfl ?_|((first|apply ae|apply af);clear ae X af Y))|(with_reducible refine bc ?_;first|refine a8 rfl ?_|refine ba rfl ?_)|(with_reducible refine bG ?_;first|refine bo rfl rfl rfl rfl ?_|refine bF rfl rfl rfl ?_|refine bX rfl rfl rfl rfl ?_)|((first|(with_reducible first|((first|refine bf ?_|refine bg ?_);intro K hK)|(refine aN ?_;intro X Y ae af)|refine aO ?_)|(with_reducible refine bG ?_;refine bp rfl rfl fun X Y ae af=>?_));simp (disch:=first|decide|omega|(simp only [List.length_cons,List.length_nil];omega)) only [go_sem,↓ah hN,ak hN,reduceIte,reduceCtorEq,Nat.reduceAdd,Nat.reduceLT,Nat.reduceLeDiff,Nat.reduceEqDiff,Nat.reduceSub])|(with_reducible refine And.intro (fun h=>?_) (fun h=>?_) <;> try (exfalso;omega))|(with_reducible refine be aQ hN ?_)|(with_reducible refine And.intro ?_ ?_)|(refine aj ?_;omega)|(exact bd hN (by decide))))
 (refine cf (fun (k : Nat)=>(tmL [(5,.c (.int .i64 k)),(0,.c (.I xs)),(1,.c (.int .i64 x))],hpL hp0 ν [])) (fun (k : Nat)=>k ≤ xs.length ∧ ∀ j,j < k → gi xs j < x) (fun (k : Nat)=>xs.length - k) ⟨0,?_,bE hX hN [] ?_ ?_⟩ ?_;(repeat' (first|(with_reducible first|exact clZ|refine bv ?_ ?_|refine bw ?_ ?_|rfl|refine suZ ?_)|refine bz rfl ?_ ?_|exact aU hN _ rfl rfl rfl|exact aV hN _ rfl rfl rfl|exact az hN _ rfl rfl rfl (Or.inr rfl)|(refine aW hN _ rfl rfl (by first|exact Or.inr rfl|exact Or.inl rfl) ?_;first|exact aF _|exact aG _)|refine aA hN rfl ?_|refine aB hN rfl rfl ?_|exact ay hN _ rfl rfl|exact aC hN rfl rfl rfl rfl|(with_reducible first|refine stZ ?_|refine aT ?_)));(try (any_goals (first|(with_reducible rfl)|(refine aj ?_;omega)))))
 · exact ⟨Nat.zero_le _,fun j hj=>absurd hj (Nat.not_lt_zero _)⟩
 rintro k ⟨hk,ho⟩
 have hdr : List.drop (Int.toNat 0) (List.take k xs) = xs.take k:=rfl
 have hdl : List.drop k (List.take xs.length xs) = xs.drop k:=by rw [List.take_length]
 have hl1 : (xs.take k).length = k:=by simp;omega
 have hl2 : (xs.drop k).length = xs.length - k:=by simp
 (repeat' (first|(with_reducible first|(apply hK;clear hK K)|refine stZ ?_|refine aZ rfl ?_|((first|apply ae|apply af);clear ae X af Y))|(with_reducible refine bc ?_;first|refine a8 rfl ?_|refine ba rfl ?_)|(with_reducible refine bG ?_;first|refine bo rfl rfl rfl rfl ?_|refine bF rfl rfl rfl ?_|refine bX rfl rfl rfl rfl ?_)|((first|(with_reducible first|((first|refine bf ?_|refine bg ?_);intro K hK)|(refine aN ?_;intro X Y ae af)|refine aO ?_)|(with_reducible refine bG ?_;refine bp rfl rfl fun X Y ae af=>?_));simp (disch:=first|decide|omega|(simp only [List.length_cons,List.length_nil];omega)) only [go_sem,↓ah hN,ak hN,reduceIte,reduceCtorEq,Nat.reduceAdd,Nat.reduceLT,Nat.reduceLeDiff,Nat.reduceEqDiff,Nat.reduceSub])|(with_reducible refine And.intro (fun h=>?_) (fun h=>?_) <;> try (exfalso;omega))|(with_reducible refine be aQ hN ?_)|(refine br (ln ?_ ?_) ?_ rfl (fun _=>rfl) ?_)|(with_reducible first|exact aq|refine am ?_ ?_|exact bL _|refine aR ?_|exact aL _|exact bn _ _|refine bm ?_|exact aJ _)|exact aS hN rfl rfl|(refine bj hN rfl ?_;first|exact aF _|exact aG _)|exact aK rfl rfl rfl|(simp only [aI,List.map_nil])|(with_reducible refine bI ?_)|(with_reducible refine And.intro ?_ ?_)|(refine aj ?_;omega)|(exact bd hN (by decide))))
 all_goals try simp only [hdr,hdl]
 all_goals try (refine aj ?_;omega)
 · (refine ⟨k + 1,⟨?_,?_⟩,bE hX hN [] ?_ ?_⟩;(try any_goals dsimp only);(repeat' (first|(with_reducible first|exact clZ|refine bv ?_ ?_|refine bw ?_ ?_|rfl|refine suZ ?_)|refine bz rfl ?_ ?_|exact aU hN _ rfl rfl rfl|exact aV hN _ rfl rfl rfl|exact az hN _ rfl rfl rfl (Or.inr rfl)|(refine aW hN _ rfl rfl (by first|exact Or.inr rfl|exact Or.inl rfl) ?_;first|exact aF _|exact aG _)|refine aA hN rfl ?_|refine aB hN rfl rfl ?_|exact ay hN _ rfl rfl|exact aC hN rfl rfl rfl rfl|(with_reducible first|refine stZ ?_|refine aT ?_)));(try (any_goals (first|(with_reducible rfl)|(refine aj ?_;omega)))))
   exact ⟨by omega,lk ho (by assumption)⟩
 · (refine fP hN [] (by decide) (.inr rfl) (by first|exact cB rfl rfl|exact ce hN rfl rfl rfl rfl|exact bO hN rfl rfl rfl rfl rfl|(simp (disch:=first|decide|omega|(simp only [List.length_cons,List.length_nil];omega)) only [bS,cc,ch,cj,go_sem,beq_self_eq_true,↓ax,↓ah hN,ak hN,reduceIte,reduceCtorEq,Nat.reduceAdd,Nat.reduceLT,Nat.reduceLeDiff,Nat.reduceEqDiff,Nat.reduceSub];rfl)|rfl) ?_ fun νs hνs=>?_;(repeat' (first|exact Gone.nil|(refine Gone.cons rfl rfl ?_ ?_)|(with_reducible refine er ?_)|(with_reducible refine eq ?_)|(with_reducible refine SVs.cons ?_ ?_)|(with_reducible exact SVs.nil)|(simp only [List.drop,List.take])|(simp (disch:=first|decide|omega) only [↓ax,reduceIte,reduceCtorEq,Nat.reduceEqDiff])|(with_reducible exact i7 _)|(with_reducible exact eo _)|(exact ep rfl rfl rfl)|(exact fa 0 (by simp) rfl rfl)|(refine fO hN rfl (eu hN (by decide)) ?_)|(with_reducible refine fN ?_)|(with_reducible rfl)|(with_reducible refine i8 ?_)|(with_reducible refine i9 ?_)|(with_reducible refine ja ?_)|(with_reducible refine iJ ?_)|(with_reducible refine iK ?_)|(refine aj ?_;omega))))
   rw [kn hk ho (fun _=>by assumption),if_pos ⟨by omega,by assumption⟩]
 · have hne : ¬ gi xs k = x:=beq_eq_false_iff_ne.1 (by assumption)
   (refine fP hN [] (by decide) (.inr rfl) (by first|exact cB rfl rfl|exact ce hN rfl rfl rfl rfl|exact bO hN rfl rfl rfl rfl rfl|(simp (disch:=first|decide|omega|(simp only [List.length_cons,List.length_nil];omega)) only [bS,cc,ch,cj,go_sem,beq_self_eq_true,↓ax,↓ah hN,ak hN,reduceIte,reduceCtorEq,Nat.reduceAdd,Nat.reduceLT,Nat.reduceLeDiff,Nat.reduceEqDiff,Nat.reduceSub];rfl)|rfl) ?_ fun νs hνs=>?_;(repeat' (first|exact Gone.nil|(refine Gone.cons rfl rfl ?_ ?_)|(with_reducible refine er ?_)|(with_reducible refine eq ?_)|(with_reducible refine SVs.cons ?_ ?_)|(with_reducible exact SVs.nil)|(simp only [List.drop,List.take])|(simp (disch:=first|decide|omega) only [↓ax,reduceIte,reduceCtorEq,Nat.reduceEqDiff])|(with_reducible exact i7 _)|(with_reducible exact eo _)|(exact ep rfl rfl rfl)|(exact fa 0 (by simp) rfl rfl)|(refine fO hN rfl (eu hN (by decide)) ?_)|(with_reducible refine fN ?_)|(with_reducible rfl)|(with_reducible refine i8 ?_)|(with_reducible refine i9 ?_)|(with_reducible refine ja ?_)|(with_reducible refine iJ ?_)|(with_reducible refine iK ?_)|(refine aj ?_;omega))))
   rw [kn hk ho (fun _=>by assumption),if_neg fun h=>hne h.2];simp
 · (refine fP hN [] (by decide) (.inr rfl) (by first|exact cB rfl rfl|exact ce hN rfl rfl rfl rfl|exact bO hN rfl rfl rfl rfl rfl|(simp (disch:=first|decide|omega|(simp only [List.length_cons,List.length_nil];omega)) only [bS,cc,ch,cj,go_sem,beq_self_eq_true,↓ax,↓ah hN,ak hN,reduceIte,reduceCtorEq,Nat.reduceAdd,Nat.reduceLT,Nat.reduceLeDiff,Nat.reduceEqDiff,Nat.reduceSub];rfl)|rfl) ?_ fun νs hνs=>?_;(repeat' (first|exact Gone.nil|(refine Gone.cons rfl rfl ?_ ?_)|(with_reducible refine er ?_)|(with_reducible refine eq ?_)|(with_reducible refine SVs.cons ?_ ?_)|(with_reducible exact SVs.nil)|(simp only [List.drop,List.take])|(simp (disch:=first|decide|omega) only [↓ax,reduceIte,reduceCtorEq,Nat.reduceEqDiff])|(with_reducible exact i7 _)|(with_reducible exact eo _)|(exact ep rfl rfl rfl)|(exact fa 0 (by simp) rfl rfl)|(refine fO hN rfl (eu hN (by decide)) ?_)|(with_reducible refine fN ?_)|(with_reducible rfl)|(with_reducible refine i8 ?_)|(with_reducible refine i9 ?_)|(with_reducible refine ja ?_)|(with_reducible refine iJ ?_)|(with_reducible refine iK ?_)|(refine aj ?_;omega))))
   rw [kn hk ho (fun h=>absurd h (by omega)),if_neg fun h=>by omega];simp
def eM (a b : List Int) : List Int:=b.foldl d4 a
theorem nU {z : Int} : ∀ {b a : List Int},z ∈ eM a b ↔ z ∈ a ∨ z ∈ b:=by
 intro b
 induction b with
 | nil => intro a; simp [eM]
 | cons y ys ih =>
   intro a
   show z ∈ eM (d4 a y) ys ↔ _
   rw [ih,lq,List.mem_cons]
   exact ⟨fun h=>h.elim (fun h=>h.elim (fun h=>.inr (.inl h)) .inl) fun h=>.inr (.inr h),fun h=>h.elim (fun h=>.inl (.inr h)) fun h=>h.elim (fun h=>.inl (.inl h)) .inr⟩
theorem gZ {m : Int} : ∀ {b a : List Int},bC a m → bC b m → bC (eM a b) m:=by
 intro b
 induction b with
 | nil => intro a h _; exact h
 | cons y ys ih =>
   intro a h k
   obtain ⟨h1,h2,_⟩:=dq.1 k
   exact ih (mq h1.1 h1.2 h) h2
theorem gL : ∀ (b a : List Int),(eM a b).length ≤ a.length + b.length:=by
 intro b
 induction b with
 | nil => intro a; exact Nat.le_refl _
 | cons y ys ih =>
   intro a
   have h1:=ih (d4 a y)
   have h2:=pM y a
   show (eM (d4 a y) ys).length ≤ _
   simp;omega
theorem mr {a b : List Int} {k : Nat} (h : k < b.length) : (b.take (k + 1)).foldl d4 a = d4 ((b.take k).foldl d4 a) (gi b k):=by
 rw [List.take_succ_eq_append_getElem h,List.foldl_append,dR h];rfl
theorem pO (a b : List Int) : ap Try.prog 69 [.c (.I a),.c (.I b)] [] (fun _=>.c (.bool (tf (bC a 256 ∧ bC b 256)))):=by
 (refine bA aQ Try.func69 rfl rfl (by kernel_rfl) fun hp0 ν hX hN=>?_;simp only [cG,Nat.reduceAdd])
 (repeat' (first|(with_reducible first|(apply hK;clear hK K)|refine stZ ?_|refine aZ rfl ?_|((first|apply ae|apply af);clear ae X af Y))|(with_reducible refine bc ?_;first|refine a8 rfl ?_|refine ba rfl ?_)|(with_reducible refine bG ?_;first|refine bo rfl rfl rfl rfl ?_|refine bF rfl rfl rfl ?_|refine bX rfl rfl rfl rfl ?_)|((first|(with_reducible first|((first|refine bf ?_|refine bg ?_);intro K hK)|(refine aN ?_;intro X Y ae af)|refine aO ?_)|(with_reducible refine bG ?_;refine bp rfl rfl fun X Y ae af=>?_));simp (disch:=first|decide|omega|(simp only [List.length_cons,List.length_nil];omega)) only [go_sem,beq_self_eq_true,↓ax,↓ah hN,ak hN,reduceIte,reduceCtorEq,Nat.reduceAdd,Nat.reduceLT,Nat.reduceLeDiff,Nat.reduceEqDiff,Nat.reduceSub])|(with_reducible refine And.intro (fun h=>?_) (fun h=>?_) <;> try (exfalso;omega))|(with_reducible refine be aQ hN ?_)|(refine br (mX ?_ ?_) ?_ rfl (fun _=>rfl) ?_)|(with_reducible first|exact aq|refine am ?_ ?_|exact bL _|refine aR ?_|exact aL _|exact bn _ _|refine bm ?_|exact aJ _)|exact aS hN rfl rfl|(refine bj hN rfl ?_;first|exact aF _|exact aG _)|exact aK rfl rfl rfl|(simp only [aI,List.map_nil])|(with_reducible refine bI ?_)|(with_reducible refine And.intro ?_ ?_)|(refine aj ?_;omega)|(exact bd hN (by decide))))
 all_goals (refine dj (.inr rfl) (by first|rfl|(simp (disch:=first|decide|omega|(simp only [List.length_cons,List.length_nil];omega)) only [bS,cc,ch,cj,go_sem,beq_self_eq_true,↓ax,↓ah hN,ak hN,reduceIte,reduceCtorEq,Nat.reduceAdd,Nat.reduceLT,Nat.reduceLeDiff,Nat.reduceEqDiff,Nat.reduceSub];rfl)) ?_)
 all_goals refine iK ?_
 · exact ew ⟨fun e=>⟨And.right (by assumption),e.2⟩,fun e=>⟨by omega,e.2⟩⟩
 · exact (aH fun e=>(by assumption : ¬ ((0 ≤ (256 : Int) ∧ (256 : Int) ≤ 256) ∧ bC a 256)) ⟨by omega,e.1⟩).symm
theorem nV (a b : List Int) (ha : bC a 256) (hb : bC b 256) : ap Try.prog 62 [.c (.I a),.c (.I b)] [] (fun _=>.c (.I (eM a b))):=by
 have hla:=eC ha (by omega)
 have hlb:=eC hb (by omega)
 have hok:=pO a b
 rw [bh ⟨ha,hb⟩] at hok
 (refine bA aQ Try.func62 rfl rfl (by kernel_rfl) fun hp0 ν hX hN=>?_;simp only [cG,Nat.reduceAdd])
 (repeat' (first|(with_reducible first|(apply hK;clear hK K)|refine stZ ?_|refine aZ rfl ?_|((first|apply ae|apply af);clear ae X af Y))|(with_reducible refine bc ?_;first|refine a8 rfl ?_|refine ba rfl ?_)|((with_reducible first|((first|refine bf ?_|refine bg ?_);intro K hK)|(refine aN ?_;intro X Y ae af)|refine aO ?_);simp (disch:=first|decide|omega|(simp only [List.length_cons,List.length_nil];omega)) only [go_sem,↓ah hN,ak hN,reduceIte,reduceCtorEq,Nat.reduceAdd,Nat.reduceLT,Nat.reduceLeDiff,Nat.reduceEqDiff,Nat.reduceSub])|(with_reducible refine And.intro (fun h=>?_) (fun h=>?_) <;> try (exfalso;omega))|(with_reducible refine be aQ hN ?_)|(refine br hok ?_ rfl (fun _=>rfl) ?_)|(refine br (ln a (by omega)) ?_ rfl (fun _=>rfl) ?_;focus ((repeat' (first|(with_reducible first|exact aq|refine am ?_ ?_|exact bL _|refine aR ?_|exact aL _|exact bn _ _|refine bm ?_|exact aJ _)|exact aS hN rfl rfl|(refine bj hN rfl ?_;first|exact aF _|exact aG _)|exact aK rfl rfl rfl));done))|(with_reducible first|exact aq|refine am ?_ ?_|exact bL _|refine aR ?_|exact aL _|exact bn _ _|refine bm ?_|exact aJ _)|exact aS hN rfl rfl|(refine bj hN rfl ?_;first|exact aF _|exact aG _)|exact aK rfl rfl rfl|(simp only [aI,List.map_nil])|(with_reducible refine bI ?_)|(with_reducible refine And.intro ?_ ?_)|(refine aj ?_;omega)|(exact bd hN (by decide))))
 (refine cf (fun (k : Nat)=>(tmL [(6,.c (.int .i64 k)),(5,.c (.I ((b.take k).foldl d4 a))),(1,.c (.I b))],hpL hp0 ν [])) (fun (k : Nat)=>k ≤ b.length) (fun (k : Nat)=>b.length - k) ⟨0,?_,bE hX hN [] ?_ ?_⟩ ?_;(repeat' (first|(with_reducible first|exact clZ|refine bv ?_ ?_|refine bw ?_ ?_|rfl|refine suZ ?_)|refine bz rfl ?_ ?_|exact aU hN _ rfl rfl rfl|exact aV hN _ rfl rfl rfl|exact az hN _ rfl rfl rfl (Or.inr rfl)|(refine aW hN _ rfl rfl (by first|exact Or.inr rfl|exact Or.inl rfl) ?_;first|exact aF _|exact aG _)|refine aA hN rfl ?_|refine aB hN rfl rfl ?_|exact ay hN _ rfl rfl|exact aC hN rfl rfl rfl rfl|(with_reducible first|refine stZ ?_|refine aT ?_)));(try (any_goals (first|(with_reducible rfl)|(refine aj ?_;omega)))))
 intro k hk
 have hlf:=gL (b.take k) a
 have hlt : (b.take k).length ≤ k:=by simp;omega
 have e : eM a (b.take k) = (b.take k).foldl d4 a:=rfl
 rw [e] at hlf
 (repeat' (first|(with_reducible first|(apply hK;clear hK K)|refine stZ ?_|refine aZ rfl ?_|((first|apply ae|apply af);clear ae X af Y))|(with_reducible refine bc ?_;first|refine a8 rfl ?_|refine ba rfl ?_)|((with_reducible first|((first|refine bf ?_|refine bg ?_);intro K hK)|(refine aN ?_;intro X Y ae af)|refine aO ?_);simp (disch:=first|decide|omega|(simp only [List.length_cons,List.length_nil];omega)) only [go_sem,↓ah hN,ak hN,reduceIte,reduceCtorEq,Nat.reduceAdd,Nat.reduceLT,Nat.reduceLeDiff,Nat.reduceEqDiff,Nat.reduceSub])|(with_reducible refine And.intro (fun h=>?_) (fun h=>?_) <;> try (exfalso;omega))|(with_reducible refine be aQ hN ?_)|(refine du (pN ((b.take k).foldl d4 a) (gi b k) (by omega)) ?_ rfl rfl ?_;focus ((repeat' (first|(with_reducible first|exact aq|refine am ?_ ?_|exact bL _|refine aR ?_|exact aL _|exact bn _ _|refine bm ?_|exact aJ _)|exact aS hN rfl rfl|(refine bj hN rfl ?_;first|exact aF _|exact aG _)|exact aK rfl rfl rfl));done))|(with_reducible first|exact aq|refine am ?_ ?_|exact bL _|refine aR ?_|exact aL _|exact bn _ _|refine bm ?_|exact aJ _)|exact aS hN rfl rfl|(refine bj hN rfl ?_;first|exact aF _|exact aG _)|exact aK rfl rfl rfl|(simp only [aI,List.map_nil])|(with_reducible refine bI ?_)|(with_reducible refine And.intro ?_ ?_)|(refine aj ?_;omega)|(exact bd hN (by decide))))
 · (refine ⟨k + 1,⟨?_,?_⟩,bE hX hN [] ?_ ?_⟩;(try any_goals dsimp only);(repeat' (first|(with_reducible first|exact clZ|refine bv ?_ ?_|refine bw ?_ ?_|rfl|refine suZ ?_)|refine bz rfl ?_ ?_|exact aU hN _ rfl rfl rfl|exact aV hN _ rfl rfl rfl|exact az hN _ rfl rfl rfl (Or.inr rfl)|(refine aW hN _ rfl rfl (by first|exact Or.inr rfl|exact Or.inl rfl) ?_;first|exact aF _|exact aG _)|refine aA hN rfl ?_|refine aB hN rfl rfl ?_|exact ay hN _ rfl rfl|exact aC hN rfl rfl rfl rfl|(with_reducible first|refine stZ ?_|refine aT ?_)));(try (any_goals (first|(with_reducible rfl)|(refine aj ?_;omega)))))
   exact (mr (a:=a) (b:=b) (k:=k) (by omega)).symm
 · (refine fP hN [] (by decide) (.inr rfl) (by first|exact cB rfl rfl|exact ce hN rfl rfl rfl rfl|exact bO hN rfl rfl rfl rfl rfl|(simp (disch:=first|decide|omega|(simp only [List.length_cons,List.length_nil];omega)) only [bS,cc,ch,cj,go_sem,beq_self_eq_true,↓ax,↓ah hN,ak hN,reduceIte,reduceCtorEq,Nat.reduceAdd,Nat.reduceLT,Nat.reduceLeDiff,Nat.reduceEqDiff,Nat.reduceSub];rfl)|rfl) ?_ fun νs hνs=>?_;(repeat' (first|exact Gone.nil|(refine Gone.cons rfl rfl ?_ ?_)|(with_reducible refine er ?_)|(with_reducible refine eq ?_)|(with_reducible refine SVs.cons ?_ ?_)|(with_reducible exact SVs.nil)|(simp only [List.drop,List.take])|(simp (disch:=first|decide|omega) only [↓ax,reduceIte,reduceCtorEq,Nat.reduceEqDiff])|(with_reducible exact i7 _)|(with_reducible exact eo _)|(exact ep rfl rfl rfl)|(exact fa 0 (by simp) rfl rfl)|(refine fO hN rfl (eu hN (by decide)) ?_)|(with_reducible refine fN ?_)|(with_reducible rfl)|(with_reducible refine i8 ?_)|(with_reducible refine i9 ?_)|(with_reducible refine ja ?_)|(with_reducible refine iJ ?_)|(with_reducible refine iK ?_)|(refine aj ?_;omega))))
   rw [show k = b.length by omega,List.take_length];rfl
end Go.Proofs.Ythjamlponejffaa
namespace Go.Proofs.Ythjamlponejffaa
set_option linter.unusedVariables false
set_option linter.unusedSimpArgs false
open Go.RowKit
attribute [local irreducible] ap b9 Aw Le
def dl (n : Int) : Nat → Dc → List Int → List Int × Dc
 | 0, d, r => (r, d)
 | k + 1, d, r => dl n k d.nxt (eM r [d.val n])
def d5 (n pm : Int) : Nat → Dc → List Int → List (List Int) → List Int → Pa × Dc
 | 0, d, o, x, p => (⟨⟨o, x⟩, p⟩, d)
 | k + 1, d, o, x, p => d5 n pm k (dl n (1 + d.val 3).toNat d.nxt []).2.nxt.nxt (o ++ [(dl n (1 + d.val 3).toNat d.nxt []).2.val 2]) (x ++ [(dl n (1 + d.val 3).toNat d.nxt []).1]) (p ++ [(dl n (1 + d.val 3).toNat d.nxt []).2.nxt.val pm])
def fv (d : Dc) (most pm : Int) : Pa × Dc:=d5 (1 + d.val most) pm (1 + d.val most).toNat d.nxt [] [] []
theorem gM (n : Int) : bC [] n:=fun k hk=>absurd hk (Nat.not_lt_zero _)
theorem gN {x n : Int} (h0 : 0 ≤ x) (h1 : x < n) : bC [x] n:=dq.2 ⟨⟨h0,h1⟩,gM n,fun z hz=>by simp at hz⟩
theorem pP {n : Int} (hn : 1 ≤ n) : ∀ (k : Nat) (d : Dc) (r : List Int),bC r n → bC (dl n k d r).1 n ∧ (dl n k d r).1.length ≤ r.length + k ∧ (0 < k ∨ r ≠ [] → 1 ≤ (dl n k d r).1.length):=by
 intro k
 induction k with
 | zero => intro d r h; exact ⟨h, Nat.le_refl _, fun h => by rcases h with h | h; (· omega); exact List.length_pos_iff.2 h⟩
 | succ k ih =>
   intro d r h
   have hb:=d.bnd hn
   obtain ⟨h1,h2,h3⟩:=ih d.nxt (eM r [d.val n]) (gZ h (gN hb.1 hb.2))
   have h4:=gL [d.val n] r
   refine ⟨h1,by show (dl n k d.nxt (eM r [d.val n])).1.length ≤ _;simp at h4;omega,fun _=>h3 (.inr fun e=>?_)⟩
   have : d.val n ∈ eM r [d.val n]:=nU.2 (.inr (by simp))
   rw [e] at this;cases this
structure GPart (n pm : Int) (o : List Int) (x : List (List Int)) (p : List Int) : Prop where
 l1 : x.length = o.length
 l2 : p.length = o.length
 at' : ∀ v,v < o.length → (0 ≤ gi o v ∧ gi o v ≤ 1) ∧ (1 ≤ (gr x v).length ∧ (gr x v).length ≤ 3 ∧ bC (gr x v) n) ∧ 0 ≤ gi p v ∧ gi p v < pm
theorem qW {xs : List (List Int)} {y : List Int} {v : Nat} (h : v ≤ xs.length) : gr (xs ++ [y]) v = if v < xs.length then gr xs v else y:=by
 unfold gr
 rw [b8]
 split
 · rfl
 · have : v - xs.length = 0:=by omega
   rw [this];rfl
theorem GPart.snoc {n pm : Int} {o : List Int} {x : List (List Int)} {p : List Int} (h : GPart n pm o x p) {a b : Int} {r : List Int} (ha : 0 ≤ a ∧ a ≤ 1) (hr : 1 ≤ r.length ∧ r.length ≤ 3 ∧ bC r n) (hb : 0 ≤ b ∧ b < pm) : GPart n pm (o ++ [a]) (x ++ [r]) (p ++ [b]):=by
 have h1:=h.l1
 have h2:=h.l2
 refine ⟨by simp [h1],by simp [h2],fun v hv=>?_⟩
 have hv' : v < o.length + 1:=by simpa using hv
 rw [dI,dI,qW (by omega),h1,h2]
 by_cases e : v < o.length
 · rw [if_pos e,if_pos e,if_pos e];exact h.at' v e
 · have : v = o.length:=by omega
   rw [if_neg e,if_neg e,if_neg e,if_pos this,if_pos this]
   exact ⟨ha,hr,hb⟩
theorem nW {n pm : Int} (hn : 1 ≤ n) (hp : 1 ≤ pm) : ∀ (k : Nat) (d : Dc) (o : List Int) (x : List (List Int)) (p : List Int),GPart n pm o x p →
  GPart n pm (d5 n pm k d o x p).1.ar.own (d5 n pm k d o x p).1.ar.nxt (d5 n pm k d o x p).1.prio ∧ (d5 n pm k d o x p).1.ar.own.length = o.length + k:=by
 intro k
 induction k with
 | zero => intro d o x p h; exact ⟨h, rfl⟩
 | succ k ih =>
   intro d o x p h
   have hb:=d.bnd (n:=3) (by omega)
   obtain ⟨h1,h2,h3⟩:=pP hn (1 + d.val 3).toNat d.nxt [] (gM n)
   have h4:=(dl n (1 + d.val 3).toNat d.nxt []).2.bnd (n:=2) (by omega)
   have h5:=(dl n (1 + d.val 3).toNat d.nxt []).2.nxt.bnd (n:=pm) hp
   have hl : ([] : List Int).length = 0:=rfl
   have:=ih (dl n (1 + d.val 3).toNat d.nxt []).2.nxt.nxt _ _ _ (h.snoc (a:=(dl n (1 + d.val 3).toNat d.nxt []).2.val 2) (b:=(dl n (1 + d.val 3).toNat d.nxt []).2.nxt.val pm) (r:=(dl n (1 + d.val 3).toNat d.nxt []).1) ⟨h4.1,by omega⟩ ⟨h3 (.inl (by omega)),by omega,h1⟩ h5)
   refine ⟨this.1,this.2.trans ?_⟩
   simp;omega
theorem pQ {d : Dc} {most pm : Int} (hm : 1 ≤ most ∧ most ≤ 16) (hp : 1 ≤ pm ∧ pm ≤ 41) : PaOk (fv d most pm).1 ∧ ((fv d most pm).1.prio.length : Int) ≤ most ∧ ∀ v,v < (fv d most pm).1.prio.length → gi (fv d most pm).1.prio v < pm:=by
 have hb:=d.bnd hm.1
 obtain ⟨h1,h2⟩:=nW (n:=1 + d.val most) (pm:=pm) (by omega) (by omega) (1 + d.val most).toNat d.nxt [] [] [] ⟨rfl,rfl,fun v hv=>absurd hv (Nat.not_lt_zero _)⟩
 have hl : ([] : List Int).length = 0:=rfl
 have e : fv d most pm = d5 (1 + d.val most) pm (1 + d.val most).toNat d.nxt [] [] []:=rfl
 rw [← e] at h1 h2
 have h3:=h1.l1
 have h4:=h1.l2
 refine ⟨⟨⟨by omega,by omega,h3,fun v hv=>?_⟩,h4,fun v hv=>?_⟩,by omega,fun v hv=>?_⟩
 · obtain ⟨a,⟨b1,b2,b3⟩,_⟩:=h1.at' v hv
   refine ⟨a.1,a.2,b1,by omega,fun j hj=>?_⟩
   have:=b3 j hj
   exact ⟨this.1,by omega,this.2.2⟩
 · obtain ⟨_,_,c1,c2⟩:=h1.at' v (by omega)
   exact ⟨c1,by omega⟩
 · exact (h1.at' v (by omega)).2.2.2
def pR (bs : List Int) (seed : Int) : Nat → Int
 | 0 => IntKind.u64.wrap (IntKind.u64.wrap (seed * 7919) + IntKind.u64.wrap bs.length)
 | k + 1 => IntKind.u64.wrap (IntKind.u64.wrap (IntKind.u64.wrap (pR bs seed k * 1099511628211) + IntKind.u64.wrap (gi bs k)) + 3)
def rg (bs : List Int) (hl : bs.length ≤ 4096) (hb : ∀ j,j < bs.length → 0 ≤ gi bs j ∧ gi bs j ≤ 255) (seed : Int) : Dc:=⟨bs,0,pR bs seed bs.length,hl,hb,by omega⟩
theorem sg (bs : List Int) (hl : bs.length ≤ 4096) (hb : ∀ j,j < bs.length → 0 ≤ gi bs j ∧ gi bs j ≤ 255) (seed : Int) : d3 Try.prog 23 (fun _=>[.c (.Y bs),.c (.int .u64 seed)]) [] [] [diE (rg bs hl hb seed)] (fun ns=>.ad (ns.getD 0 0) 0):=by
 (refine fX aQ Try.func23 rfl rfl (fun _=>by kernel_rfl) rfl rfl rfl rfl (by first|exact kf _|exact iG (j:=0) (by simp) (by simp [Ent.kind])|exact iH (j:=0) (by simp) (by simp [Ent.kind])|exact fW rfl|exact gI|exact kg _) fun hp0 ν hX hN=>?_;simp only [cG,Nat.reduceAdd])
 (repeat' (first|(with_reducible first|(apply hK;clear hK K)|refine stZ ?_|refine aZ rfl ?_|((first|apply ae|apply af);clear ae X af Y))|(with_reducible refine bc ?_;first|refine a8 rfl ?_|refine ba rfl ?_)|(with_reducible refine cm ?_;refine cr hN ?_)|((with_reducible first|((first|refine bf ?_|refine ct ?_|refine bg ?_|refine cw ?_);intro K hK)|(refine aN ?_;intro X Y ae af)|refine aO ?_);simp (disch:=first|decide|omega|(simp only [List.length_cons,List.length_nil];omega)) only [go_sem,↓ah hN,ak hN,reduceIte,reduceCtorEq,Nat.reduceAdd,Nat.reduceLT,Nat.reduceLeDiff,Nat.reduceEqDiff,Nat.reduceSub])|(with_reducible refine And.intro (fun h=>?_) (fun h=>?_) <;> try (exfalso;omega))|(with_reducible refine be aQ hN ?_)|(with_reducible refine bB aQ hN ?_)|(with_reducible refine And.intro ?_ ?_)|(refine aj ?_;omega)|(exact bd hN (by decide))))
 (refine cf (fun (k : Nat)=>(tmL [(6,.c (.int .i64 k)),(5,.ad (ν 0) 0),(0,.c (.Y bs))],hpL hp0 ν [.box [.c (.Y bs),.c (.int .i64 0),.c (.int .u64 (pR bs seed k))]])) (fun (k : Nat)=>k ≤ bs.length) (fun (k : Nat)=>bs.length - k) ⟨0,?_,bE hX hN [] ?_ ?_⟩ ?_;(repeat' (first|(with_reducible first|exact clZ|refine bv ?_ ?_|refine bw ?_ ?_|rfl|refine suZ ?_)|refine bz rfl ?_ ?_|exact aU hN _ rfl rfl rfl|exact aV hN _ rfl rfl rfl|exact az hN _ rfl rfl rfl (Or.inr rfl)|(refine aW hN _ rfl rfl (by first|exact Or.inr rfl|exact Or.inl rfl) ?_;first|exact aF _|exact aG _)|refine aA hN rfl ?_|refine aB hN rfl rfl ?_|exact ay hN _ rfl rfl|exact aC hN rfl rfl rfl rfl|(with_reducible first|refine stZ ?_|refine aT ?_)));(try (any_goals (first|(with_reducible rfl)|(refine aj ?_;omega)))))
 · rfl
 intro k hk
 (repeat' (first|(with_reducible first|(apply hK;clear hK K)|refine stZ ?_|refine aZ rfl ?_|((first|apply ae|apply af);clear ae X af Y))|(with_reducible refine bc ?_;first|refine a8 rfl ?_|refine ba rfl ?_)|(with_reducible refine cm ?_;refine cr hN ?_)|((with_reducible first|((first|refine bf ?_|refine ct ?_|refine bg ?_|refine cw ?_);intro K hK)|(refine aN ?_;intro X Y ae af)|refine aO ?_);simp (disch:=first|decide|omega|(simp only [List.length_cons,List.length_nil];omega)) only [go_sem,↓ah hN,ak hN,reduceIte,reduceCtorEq,Nat.reduceAdd,Nat.reduceLT,Nat.reduceLeDiff,Nat.reduceEqDiff,Nat.reduceSub])|(with_reducible refine And.intro (fun h=>?_) (fun h=>?_) <;> try (exfalso;omega))|(with_reducible refine be aQ hN ?_)|(with_reducible refine bB aQ hN ?_)|(with_reducible refine And.intro ?_ ?_)|(refine aj ?_;omega)|(exact bd hN (by decide))))
 · (refine ⟨k + 1,⟨?_,?_⟩,bE hX hN [] ?_ ?_⟩;(try any_goals dsimp only);(repeat' (first|(with_reducible first|exact clZ|refine bv ?_ ?_|refine bw ?_ ?_|rfl|refine suZ ?_)|refine bz rfl ?_ ?_|exact aU hN _ rfl rfl rfl|exact aV hN _ rfl rfl rfl|exact az hN _ rfl rfl rfl (Or.inr rfl)|(refine aW hN _ rfl rfl (by first|exact Or.inr rfl|exact Or.inl rfl) ?_;first|exact aF _|exact aG _)|refine aA hN rfl ?_|refine aB hN rfl rfl ?_|exact ay hN _ rfl rfl|exact aC hN rfl rfl rfl rfl|(with_reducible first|refine stZ ?_|refine aT ?_)));(try (any_goals (first|(with_reducible rfl)|(refine aj ?_;omega)))))
   rfl
 · (refine ⟨.inr rfl,_,(by first|exact cB rfl rfl|exact ce hN rfl rfl rfl rfl|exact bO hN rfl rfl rfl rfl rfl|(simp (disch:=first|decide|omega|(simp only [List.length_cons,List.length_nil];omega)) only [bS,cc,ch,cj,go_sem,beq_self_eq_true,↓ax,↓ah hN,ak hN,reduceIte,reduceCtorEq,Nat.reduceAdd,Nat.reduceLT,Nat.reduceLeDiff,Nat.reduceEqDiff,Nat.reduceSub];rfl)|rfl),[],_,rfl,?_,rfl,?_⟩;(all_goals try simp only [List.drop,List.take,List.cons_append,List.nil_append,nmL,List.length_cons,List.length_nil,Nat.reduceAdd,List.getD_cons_zero]);(repeat' (first|(with_reducible first|exact clZ|refine bv ?_ ?_|refine bw ?_ ?_|rfl|refine suZ ?_)|refine bz rfl ?_ ?_|exact aU hN _ rfl rfl rfl|exact aV hN _ rfl rfl rfl|exact az hN _ rfl rfl rfl (Or.inr rfl)|(refine aW hN _ rfl rfl (by first|exact Or.inr rfl|exact Or.inl rfl) ?_;first|exact aF _|exact aG _)|refine aA hN rfl ?_|refine aB hN rfl rfl ?_|exact ay hN _ rfl rfl|exact aC hN rfl rfl rfl rfl|(with_reducible first|refine stZ ?_|refine aT ?_))))
   all_goals first|rfl|(rw [show k = bs.length by omega];rfl)
end Go.Proofs.Ythjamlponejffaa
