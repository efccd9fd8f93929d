/-
  Lists of stages: numbers written into all that they own.
-/
import Derived.Test.YtdkkhhfhdijfmaaZsYL
namespace Go.Proofs.Ytdkkhhfhdijfmaa
set_option linter.unusedVariables false
set_option linter.unusedSimpArgs false
open Go.RowKit
attribute [local go_sem ↓] Go.wp_at_zero Go.wp_at_succ
structure StgL (w : World) (b o n : Nat) (f : Nat → St) : Prop where
 lt : b < w.heap.size
 at' : ∀ k,k < n → ∃ s0 n0 c0 s1 n1 c1,w.cell? ⟨b,o + k * 3,none⟩ = some (.slice s0 n0 c0) ∧ w.cell? ⟨b,o + k * 3 + 1,none⟩ = some (.slice s1 n1 c1) ∧ w.cell? ⟨b,o + k * 3 + 2,none⟩ = some (.int .i64 (f k).at_) ∧ cS w s0 n0 c0 (f k).won ∧ cS w s1 n1 c1 (f k).region
theorem StgL.below {w w' : World} {b o n : Nat} {f : Nat → St} (h : StgL w b o n f) (hb : Below w.heap.size w w') : StgL w' b o n f :=
 ⟨Nat.lt_of_lt_of_le h.lt hb.size,fun k hk=>by
  obtain ⟨s0,n0,c0,s1,n1,c1,h0,h1,h2,h3,h4⟩:=h.at' k hk
  exact ⟨s0,n0,c0,s1,n1,c1,aH h0 hb,aH h1 hb,aH h2 hb,h3.below hb,h4.below hb⟩⟩
set_option maxRecDepth 100000 in
set_option maxHeartbeats 1000000 in
theorem ui (b o n c b' o' c' : Nat) (f : Nat → St) (w : World) (hn : n ≤ 1099511627776) (hx : StgL w b o n f) (hy : StgL w b' o' n f) : Calls Try.prog 16 #[.slice (some ⟨b,o,none⟩) n c,.slice (some ⟨b',o',none⟩) n c'] w (Bb w true):=by
 go_enter Try.func16,Try.ntmps16
 go_wp2_with fail
 go_loopw [5] (fun i wr=>∃ k : Nat,k ≤ n ∧ i = .int .i64 k ∧ Below w.heap.size w wr) (fun i _=>n - (intOf i).toNat)
 case atStart=>exact ⟨0,by omega,rfl,Below.refl _ _⟩
 case round =>
  obtain ⟨k,hk,rfl,hb⟩:=hrel
  by_cases hlt : k < n
  · obtain ⟨s0,n0,c0,s1,n1,c1,h0,h1,h2,h3,h4⟩:=(hx.below hb).at' k hlt
    obtain ⟨t0,m0,d0,t1,m1,d1,g0,g1,g2,g3,g4⟩:=(hy.below hb).at' k hlt
    have hA : IsS wr (.agg #[.slice s0 n0 c0,.slice s1 n1 c1,.int .i64 (f k).at_]) (f k):=⟨_,_,rfl,h3.is,h4.is⟩
    have hB : IsS wr (.agg #[.slice t0 m0 d0,.slice t1 m1 d1,.int .i64 (f k).at_]) (f k):=⟨_,_,rfl,g3.is,g4.is⟩
    have i0 : (0 : Int) ≤ (k : Int):=by omega
    have i1 : (k : Int) < (n : Int):=by omega
    go_wp2_with fail
    go_region_held3 (fun w'=>w'.cell? ⟨b,o + k * 3,none⟩ = some (.slice s0 n0 c0) ∧ w'.cell? ⟨b,o + k * 3 + 1,none⟩ = some (.slice s1 n1 c1) ∧ w'.cell? ⟨b,o + k * 3 + 2,none⟩ = some (.int .i64 (f k).at_) ∧ w'.cell? ⟨b',o' + k * 3,none⟩ = some (.slice t0 m0 d0) ∧ w'.cell? ⟨b',o' + k * 3 + 1,none⟩ = some (.slice t1 m1 d1) ∧ w'.cell? ⟨b',o' + k * 3 + 2,none⟩ = some (.int .i64 (f k).at_)) (first|exact ⟨h0,h1,h2,g0,g1,g2⟩|exact ⟨aH h0 hB5,aH h1 hB5,aH h2 hB5,aH g0 hB5,aH g1 hB5,aH g2 hB5⟩|go_keep)
     (first
      | (go_at_call 29; refine (rx _ _ _ _ _ (hA.below (by repeat' (first | (with_reducible exact Below.refl _ _) | (with_reducible assumption) | (with_reducible apply an) | (with_reducible apply Below.alloc) | (with_reducible apply Below.drew) | (with_reducible apply ak) | (with_reducible refine Below.trans ?_ (Below.mono (by assumption) ?_)) | omega | (simp only [World.size_alloc, World.size_setCell, World.size_drew]; omega)))) (hB.below (by repeat' (first | (with_reducible exact Below.refl _ _) | (with_reducible assumption) | (with_reducible apply an) | (with_reducible apply Below.alloc) | (with_reducible apply Below.drew) | (with_reducible apply ak) | (with_reducible refine Below.trans ?_ (Below.mono (by assumption) ?_)) | omega | (simp only [World.size_alloc, World.size_setCell, World.size_drew]; omega))))).mono ?_; rw [bg rfl]; rintro e w5 ⟨rfl, hb5⟩; have hB5 : Below wr.heap.size wr w5 := (by repeat' (first | (with_reducible exact Below.refl _ _) | (with_reducible assumption) | (with_reducible apply an) | (with_reducible apply Below.alloc) | (with_reducible apply Below.drew) | (with_reducible apply ak) | (with_reducible refine Below.trans ?_ (Below.mono (by assumption) ?_)) | omega | (simp only [World.size_alloc, World.size_setCell, World.size_drew]; omega)))))
    all_goals
     go_wp2_with fail
     go_roundw
    all_goals first
     | (case rel => exact ⟨k + 1, by omega, by go_num, hb.trans (hB5.mono hb.size)⟩)
     | (case measure => simp [intOf]; omega)
  · go_wp2_with fail
    go_ret
    exact ⟨rfl,hb⟩
end Go.Proofs.Ytdkkhhfhdijfmaa
namespace Go.Proofs.Ytdkkhhfhdijfmaa
set_option linter.unusedVariables false
set_option linter.unusedSimpArgs false
open Go.RowKit
attribute [local go_sem ↓] Go.wp_at_zero Go.wp_at_succ
def cE (f : Nat → St) : Nat → Nat
 | 0 => 0
 | k + 1 => cE f k + ((f k).won.length + (f k).region.length + 1)
theorem gA (f : Nat → St) {j k : Nat} (h : j ≤ k) : cE f j ≤ cE f k:=by
 induction k with
 | zero => obtain rfl : j = 0 := by omega
           exact Nat.le_refl _
 | succ k ih =>
   by_cases e : j = k + 1
   · subst e;exact Nat.le_refl _
   · have:=ih (by omega);simp only [cE];omega
def iM (f : Nat → St) (k : Int) (j : Nat) : St:=⟨mkI (f j).won.length (k + cE f j),mkI (f j).region.length (k + cE f j + (f j).won.length),k + cE f j + (f j).won.length + (f j).region.length⟩
set_option maxRecDepth 100000 in
set_option maxHeartbeats 1000000 in
theorem nJ (b o n c : Nat) (f : Nat → St) (k : Int) (w : World) (hn : n ≤ 1099511627776) (h0 : 0 ≤ k) (h1 : k + cE f n ≤ 1152921504606846976) (hl : ∀ j,j < n → (f j).won.length ≤ 1048576 ∧ (f j).region.length ≤ 1048576) (h : StgL w b o n (iM f k)) :
  Calls Try.prog 18 #[.slice (some ⟨b,o,none⟩) n c,.int .i64 k] w fun e w'=>e = .returned (.int .i64 (k + cE f n)) ∧ w = w':=by
 have HL:=Lib.hid hl
 have H1:=Lib.hid h1
 clear hl h1
 go_enter Try.func18,Try.ntmps18
 go_wp2_with fail
 go_loop [1,5] (fun q i=>∃ j : Nat,j ≤ n ∧ i = .int .i64 j ∧ q = .int .i64 (k + cE f j)) (fun _ i=>n - (intOf i).toNat)
 case atStart=>exact ⟨0,by omega,rfl,by simp [cE]⟩
 case round =>
  obtain ⟨j,hj,rfl,rfl⟩:=hrel
  have hm:=gA f hj
  have hq:=H1.out
  by_cases hlt : j < n
  · obtain ⟨s0,n0,c0,s1,n1,c1,g0,g1,g2,g3,g4⟩:=h.at' j hlt
    have e0 : n0 = (f j).won.length:=by have:=g3.1;simp only [iM,mkI,bK] at this;omega
    have e1 : n1 = (f j).region.length:=by have:=g4.1;simp only [iM,mkI,bK] at this;omega
    subst e0 e1
    have hS:=gA f (show j + 1 ≤ n from hlt)
    have hs1 : cE f (j + 1) = cE f j + ((f j).won.length + (f j).region.length + 1):=rfl
    have HS:=Lib.hid hs1
    have hl0:=HL.out j hlt
    rw [hs1] at hS
    have p0 : (0 : Int) ≤ k + (cE f j : Nat):=by omega
    have p1 : ¬ (k + (cE f j : Nat) + ((f j).won.length : Nat) < 0):=by omega
    have p2 : ¬ (k + (cE f j : Nat) + ((f j).won.length : Nat) + ((f j).region.length : Nat) < 0):=by omega
    have G3 : IsI w (.slice s0 (f j).won.length c0) (mkI (f j).won.length (k + (cE f j : Nat))):=g3.is
    have G4 : IsI w (.slice s1 (f j).region.length c1) (mkI (f j).region.length (k + (cE f j : Nat) + ((f j).won.length : Nat))):=g4.is
    have G2 : w.cell? ⟨b,o + j * 3 + 2,none⟩ = some (.int .i64 (k + (cE f j : Nat) + ((f j).won.length : Nat) + ((f j).region.length : Nat))):=g2
    clear g2 g3 g4 hs1
    go_wp2_with fail
    refine (j8 _ G3 p0 (by omega) hl0.1).mono ?_
    rintro e w' ⟨rfl,rfl⟩
    go_wp2_with fail
    refine (j8 _ G4 (by omega) (by omega) hl0.2).mono ?_
    rintro e w' ⟨rfl,rfl⟩
    go_wp2_with fail
    go_roundw
    case rel =>
     refine ⟨j + 1,by omega,by (first|rfl|go_num),?_⟩
     rw [HS.out];congr 1;omega
    case measure=>simp [intOf];omega
  · have e : j = n:=by omega
    subst e
    go_wp2_with fail
    go_ret
    exact ⟨rfl,rfl⟩
end Go.Proofs.Ytdkkhhfhdijfmaa
namespace Go.Proofs.Ytdkkhhfhdijfmaa
set_option linter.unusedVariables false
set_option linter.unusedSimpArgs false
open Go.RowKit
attribute [local go_sem ↓] Go.wp_at_zero Go.wp_at_succ
structure SgL (lo hi : Nat) (w : World) (gO n cap : Nat) (cs : List Value) (f : Nat → St) : Prop where
 row : w.ownsRow lo 46 3 (.slice (some ⟨gO,0,none⟩) n cap) n cs
 top : gO < hi
 won : ∀ k,k < n → ∃ s m c,cs[k * 3]? = some (.slice s m c) ∧ aO lo hi w (.slice s m c) (f k).won
 reg : ∀ k,k < n → ∃ s m c,cs[k * 3 + 1]? = some (.slice s m c) ∧ aO lo hi w (.slice s m c) (f k).region
 num : ∀ k,k < n → cs[k * 3 + 2]? = some (.int .i64 (f k).at_)
 sep : ∀ (i j : Nat) (u v : Value) (g : Nat),i ≠ j → cs[i]? = some u → cs[j]? = some v → blk u = some g → blk v ≠ some g
section
variable {lo hi : Nat} {w : World} {gO n cap : Nat} {cs : List Value} {f : Nat → St}
theorem SgL.len (h : SgL lo hi w gO n cap cs f) : cs.length = n * 3:=h.row.1
theorem SgL.cell (h : SgL lo hi w gO n cap cs f) {i : Nat} {u : Value} (hi' : cs[i]? = some u) : (∃ xs,aO lo hi w u xs) ∨ ∃ x,u = .int .i64 x:=by
 have hl : i < n * 3:=by rw [← h.len];exact (List.getElem?_eq_some_iff.1 hi').1
 have h3 : i = i / 3 * 3 + i % 3:=by omega
 have hk : i / 3 < n:=by omega
 have hm : i % 3 < 3:=by omega
 rcases (show i % 3 = 0 ∨ i % 3 = 1 ∨ i % 3 = 2 by omega) with e|e|e
 · obtain ⟨s,m,c,h1,h2⟩:=h.won _ hk
   rw [show i / 3 * 3 = i by omega,hi'] at h1
   injection h1 with h1;subst h1;exact .inl ⟨_,h2⟩
 · obtain ⟨s,m,c,h1,h2⟩:=h.reg _ hk
   rw [show i / 3 * 3 + 1 = i by omega,hi'] at h1
   injection h1 with h1;subst h1;exact .inl ⟨_,h2⟩
 · have h1:=h.num _ hk
   rw [show i / 3 * 3 + 2 = i by omega,hi'] at h1
   injection h1 with h1;exact .inr ⟨_,h1⟩
theorem SgL.lt (h : SgL lo hi w gO n cap cs f) {i : Nat} {u : Value} (hi' : cs[i]? = some u) : ∀ g,blk u = some g → lo ≤ g ∧ g < hi:=by
 intro g hg
 rcases h.cell hi' with ⟨xs,h1⟩|⟨x,rfl⟩
 · exact aO.blks h1 g hg
 · cases hg
theorem SgL.keep (h : SgL lo hi w gO n cap cs f) {hi' : Nat} {w' : World} (hr : w'.ownsRow lo 46 3 (.slice (some ⟨gO,0,none⟩) n cap) n cs) (ht : gO < hi') (hK : ∀ v xs,aO lo hi w v xs → aO lo hi' w' v xs) : SgL lo hi' w' gO n cap cs f :=
 ⟨hr,ht,fun k hk=>by obtain ⟨s,m,c,h1,h2⟩:=h.won k hk;exact ⟨s,m,c,h1,hK _ _ h2⟩,fun k hk=>by obtain ⟨s,m,c,h1,h2⟩:=h.reg k hk;exact ⟨s,m,c,h1,hK _ _ h2⟩,h.num,h.sep⟩
theorem SgL.below (h : SgL lo hi w gO n cap cs f) {w' : World} (hb : Below w.heap.size w w') : SgL lo hi w' gO n cap cs f :=
 h.keep (dZ h.row hb) h.top fun v xs h=>aO.below h hb
theorem SgL.mono (h : SgL lo hi w gO n cap cs f) {lo' hi' : Nat} (hl : lo' ≤ lo) (hh : hi ≤ hi') : SgL lo' hi' w gO n cap cs f:=by
 have ht:=h.top
 refine ⟨?_,by omega,fun k hk=>by obtain ⟨s,m,c,h1,h2⟩:=h.won k hk;exact ⟨s,m,c,h1,aO.mono h2 hl hh⟩,fun k hk=>by obtain ⟨s,m,c,h1,h2⟩:=h.reg k hk;exact ⟨s,m,c,h1,aO.mono h2 hl hh⟩,h.num,h.sep⟩
 rcases h.row with ⟨h0,h1|⟨g,cp,cur,e,hg,h2⟩⟩
 · exact ⟨h0,.inl h1⟩
 · exact ⟨h0,.inr ⟨g,cp,cur,e,by omega,h2⟩⟩
theorem SgL.glt (h : SgL lo hi w gO n cap cs f) : lo ≤ gO ∧ gO < w.heap.size:=by
 rcases h.row with ⟨_,⟨e,_⟩|⟨g,cp,cur,e,hg,h2,_⟩⟩
 · cases e
 · simp only [Value.slice.injEq,Option.some.injEq,Addr.mk.injEq,and_true,true_and] at e
   obtain ⟨rfl,-⟩:=e
   exact ⟨hg,(Array.getElem?_eq_some_iff.1 h2).1⟩
theorem SgL.htop (h : SgL lo hi w gO n cap cs f) : SgL lo w.heap.size w gO n cap cs f :=
 h.keep h.row h.glt.2 fun v xs h=>aO.top h
theorem SgL.congr (h : SgL lo hi w gO n cap cs f) {f' : Nat → St} (hf : ∀ k,k < n → f k = f' k) : SgL lo hi w gO n cap cs f' :=
 ⟨h.row,h.top,fun k hk=>by rw [← hf k hk];exact h.won k hk,fun k hk=>by rw [← hf k hk];exact h.reg k hk,fun k hk=>by rw [← hf k hk];exact h.num k hk,h.sep⟩
theorem SgL.stgL (h : SgL lo hi w gO n cap cs f) : StgL w gO 0 n f:=by
 refine ⟨h.glt.2,fun k hk=>?_⟩
 obtain ⟨s,m,c,h1,h2⟩:=h.won k hk
 obtain ⟨s',m',c',h3,h4⟩:=h.reg k hk
 have q0:=di h.row h1
 have q1:=di h.row h3
 have q2:=di h.row (h.num k hk)
 refine ⟨s,m,c,s',m',c',?_,?_,?_,(aO.is h2).ints,(aO.is h4).ints⟩
 · rw [Nat.zero_add];exact q0
 · rw [Nat.zero_add];exact q1
 · rw [Nat.zero_add];exact q2
theorem SgL.push (h : SgL lo hi w gO n cap cs f) {hi' gO' c' : Nat} {w' : World} {s0 : Option Addr} {m0 d0 : Nat} {s1 : Option Addr} {m1 d1 : Nat}
  (hr : w'.ownsRow lo 46 3 (.slice (some ⟨gO',0,none⟩) (n + 1) c') (n + 1) (cs ++ [.slice s0 m0 d0,.slice s1 m1 d1,.int .i64 (f n).at_])) (ht : gO' < hi') (hK : ∀ v xs,aO lo hi w v xs → aO lo hi' w' v xs)
  (k0 : aO lo hi' w' (.slice s0 m0 d0) (f n).won) (k1 : aO lo hi' w' (.slice s1 m1 d1) (f n).region)
  (b0 : ∀ g,blk (.slice s0 m0 d0) = some g → hi ≤ g) (b1 : ∀ g,blk (.slice s1 m1 d1) = some g → hi ≤ g) (b01 : ∀ g,blk (.slice s0 m0 d0) = some g → blk (.slice s1 m1 d1) ≠ some g) :
  SgL lo hi' w' gO' (n + 1) c' (cs ++ [.slice s0 m0 d0,.slice s1 m1 d1,.int .i64 (f n).at_]) f:=by
 have hl:=h.len
 have old : ∀ i,i < n * 3 → (cs ++ [.slice s0 m0 d0,.slice s1 m1 d1,.int .i64 (f n).at_])[i]? = cs[i]?:=fun i hi=>List.getElem?_append_left (by omega)
 have e0 : (cs ++ [.slice s0 m0 d0,.slice s1 m1 d1,.int .i64 (f n).at_])[n * 3]? = some (.slice s0 m0 d0):=by rw [List.getElem?_append_right (by omega),hl,Nat.sub_self];rfl
 have e1 : (cs ++ [.slice s0 m0 d0,.slice s1 m1 d1,.int .i64 (f n).at_])[n * 3 + 1]? = some (.slice s1 m1 d1):=by rw [List.getElem?_append_right (by omega),hl,Nat.add_sub_cancel_left];rfl
 have e2 : (cs ++ [.slice s0 m0 d0,.slice s1 m1 d1,.int .i64 (f n).at_])[n * 3 + 2]? = some (.int .i64 (f n).at_):=by rw [List.getElem?_append_right (by omega),hl,Nat.add_sub_cancel_left];rfl
 generalize (cs ++ [.slice s0 m0 d0,.slice s1 m1 d1,.int .i64 (f n).at_]) = cs' at *
 refine ⟨hr,ht,fun k hk=>?_,fun k hk=>?_,fun k hk=>?_,?_⟩
 · by_cases e : k = n
   · subst e;exact ⟨_,_,_,e0,k0⟩
   · rw [old _ (by omega)];obtain ⟨s,m,c,h1,h2⟩:=h.won k (by omega);exact ⟨s,m,c,h1,hK _ _ h2⟩
 · by_cases e : k = n
   · subst e;exact ⟨_,_,_,e1,k1⟩
   · rw [old _ (by omega)];obtain ⟨s,m,c,h1,h2⟩:=h.reg k (by omega);exact ⟨s,m,c,h1,hK _ _ h2⟩
 · by_cases e : k = n
   · subst e;exact e2
   · rw [old _ (by omega)];exact h.num k (by omega)
 · have hl' : cs'.length = (n + 1) * 3:=hr.1
   have cls : ∀ i u,cs'[i]? = some u → (i < n * 3 ∧ cs[i]? = some u) ∨ (i = n * 3 ∧ u = .slice s0 m0 d0) ∨ (i = n * 3 + 1 ∧ u = .slice s1 m1 d1) ∨ u = .int .i64 (f n).at_:=by
    intro i u hu
    have hi:=(List.getElem?_eq_some_iff.1 hu).1
    by_cases g0 : i < n * 3
    · rw [old i g0] at hu;exact .inl ⟨g0,hu⟩
    · rcases (show i = n * 3 ∨ i = n * 3 + 1 ∨ i = n * 3 + 2 by omega) with e|e|e
      · subst e;rw [e0] at hu;injection hu with hu;exact .inr (.inl ⟨rfl,hu.symm⟩)
      · subst e;rw [e1] at hu;injection hu with hu;exact .inr (.inr (.inl ⟨rfl,hu.symm⟩))
      · subst e;rw [e2] at hu;injection hu with hu;exact .inr (.inr (.inr hu.symm))
   intro i j u v g hij hu hv hg hg'
   rcases cls i u hu with ⟨a1,a2⟩|⟨a1,rfl⟩|⟨a1,rfl⟩|rfl
   · rcases cls j v hv with ⟨c1,c2⟩|⟨c1,rfl⟩|⟨c1,rfl⟩|rfl
     · exact h.sep i j u v g hij a2 c2 hg hg'
     · have:=(h.lt a2 g hg).2;have:=b0 g hg';omega
     · have:=(h.lt a2 g hg).2;have:=b1 g hg';omega
     · cases hg'
   · rcases cls j v hv with ⟨c1,c2⟩|⟨c1,rfl⟩|⟨c1,rfl⟩|rfl
     · have:=(h.lt c2 g hg').2;have:=b0 g hg;omega
     · omega
     · exact b01 g hg hg'
     · cases hg'
   · rcases cls j v hv with ⟨c1,c2⟩|⟨c1,rfl⟩|⟨c1,rfl⟩|rfl
     · have:=(h.lt c2 g hg').2;have:=b1 g hg;omega
     · exact b01 g hg' hg
     · omega
     · cases hg'
   · cases hg
end
end Go.Proofs.Ytdkkhhfhdijfmaa
namespace Go.Proofs.Ytdkkhhfhdijfmaa
set_option linter.unusedVariables false
set_option linter.unusedSimpArgs false
open Go.RowKit
attribute [local go_sem ↓] Go.wp_at_zero Go.wp_at_succ
def uj (w : World) (x : St) (m : Int) (e : Ending) (w' : World) : Prop:=∃ s0 n0 c0 s1 n1 c1,e = .returned (.tuple #[.agg #[.slice s0 n0 c0,.slice s1 n1 c1,.int .i64 x.at_],.int .i64 m]) ∧ aO w.heap.size w'.heap.size w' (.slice s0 n0 c0) x.won ∧ aO w.heap.size w'.heap.size w' (.slice s1 n1 c1) x.region ∧ (∀ g,blk (.slice s0 n0 c0) = some g → blk (.slice s1 n1 c1) ≠ some g) ∧ Below w.heap.size w w'
def vQ (w : World) (x : St) (e : Ending) (w' : World) : Prop:=∃ s0 n0 c0 s1 n1 c1,e = .returned (.agg #[.slice s0 n0 c0,.slice s1 n1 c1,.int .i64 x.at_]) ∧ aO w.heap.size w'.heap.size w' (.slice s0 n0 c0) x.won ∧ aO w.heap.size w'.heap.size w' (.slice s1 n1 c1) x.region ∧ (∀ g,blk (.slice s0 n0 c0) = some g → blk (.slice s1 n1 c1) ≠ some g) ∧ Below w.heap.size w w'
theorem mC (l : Loc) {s : Option Addr} {n c : Nat} (h : l.val = .slice s n c) {g : Nat} (hb : blk (.slice s n c) = some g) : l.blk = some g:=by
 rw [← h] at hb
 cases l <;> exact hb
theorem rc {x : St} {w' : World} {φ' : Nat → Loc} {v : Value} {hp0 : Hp} {lo : Nat} {w0 : World} (H : HC φ' (bX hp0 [0,1] [.arr 2 .yes (.I x.won),.arr 2 .yes (.I x.region)]) lo w0 w')
  (l0 : bX hp0 [0,1] [Ent.arr 2 .yes (.I x.won),.arr 2 .yes (.I x.region)] 0 = some (.arr 2 .yes (.I x.won))) (l1 : bX hp0 [0,1] [Ent.arr 2 .yes (.I x.won),.arr 2 .yes (.I x.region)] 1 = some (.arr 2 .yes (.I x.region)))
  (ha : AVC φ' (bX hp0 [0,1] [.arr 2 .yes (.I x.won),.arr 2 .yes (.I x.region)]) w' (.agg [.sl 0,.sl 1,.c (.int .i64 x.at_)]) v) :
  ∃ s0 n0 c0 s1 n1 c1,v = .agg #[.slice s0 n0 c0,.slice s1 n1 c1,.int .i64 x.at_] ∧ aO lo w'.heap.size w' (.slice s0 n0 c0) x.won ∧ aO lo w'.heap.size w' (.slice s1 n1 c1) x.region ∧ (∀ g,blk (.slice s0 n0 c0) = some g → blk (.slice s1 n1 c1) ≠ some g):=by
 have o0:=mB (H.ent 0 _ l0) rfl fun b hb=>H.lo 0 b ⟨_,l0,(by show 1 < 2;decide)⟩ hb
 have o1:=mB (H.ent 1 _ l1) rfl fun b hb=>H.lo 1 b ⟨_,l1,(by show 1 < 2;decide)⟩ hb
 have sp:=fun b hb=>H.sep 0 1 b (by decide) ⟨_,l0,fun e=>by cases e⟩ ⟨_,l1,fun e=>by cases e⟩ hb
 obtain ⟨xs,ex,hx⟩:=ld ha
 match xs,hx with
 | [va, vb, vc], .cons a1 (.cons a2 (.cons a3 .nil)) =>
   have e1 : va = (φ' 0).val:=lA a1 l0
   have e2 : vb = (φ' 1).val:=lA a2 l1
   have e3 : vc = .int .i64 x.at_:=cN a3
   obtain ⟨s0,n0,c0,q0⟩:=kC (φ' 0)
   obtain ⟨s1,n1,c1,q1⟩:=kC (φ' 1)
   rw [q0] at o0 e1
   rw [q1] at o1 e2
   subst e1;subst e2;subst e3
   exact ⟨s0,n0,c0,s1,n1,c1,ex,o0,o1,fun g h0 h1=>sp g (mC _ q0 h0) (mC _ q1 h1)⟩
theorem SgL.first {lo hi : Nat} {w : World} {gO cap : Nat} {f : Nat → St} {s0 : Option Addr} {m0 d0 : Nat} {s1 : Option Addr} {m1 d1 : Nat}
  (hr : w.ownsRow lo 46 3 (.slice (some ⟨gO,0,none⟩) 1 cap) 1 ([] ++ [.slice s0 m0 d0,.slice s1 m1 d1,.int .i64 (f 0).at_])) (ht : gO < hi)
  (k0 : aO lo hi w (.slice s0 m0 d0) (f 0).won) (k1 : aO lo hi w (.slice s1 m1 d1) (f 0).region) (b01 : ∀ g,blk (.slice s0 m0 d0) = some g → blk (.slice s1 m1 d1) ≠ some g) :
  SgL lo hi w gO 1 cap ([] ++ [.slice s0 m0 d0,.slice s1 m1 d1,.int .i64 (f 0).at_]) f:=by
 refine ⟨hr,ht,fun k hk=>?_,fun k hk=>?_,fun k hk=>?_,?_⟩
 · obtain rfl : k = 0:=by omega
   exact ⟨_,_,_,rfl,k0⟩
 · obtain rfl : k = 0:=by omega
   exact ⟨_,_,_,rfl,k1⟩
 · obtain rfl : k = 0:=by omega
   rfl
 · intro i j u v g hij hu hv hg hg'
   match i,j,hij,hu,hv with
   | 0, 0, h, _, _ => exact h rfl
   | 0, 1, _, hu, hv => cases hu; cases hv; exact b01 g hg hg'
   | 1, 0, _, hu, hv => cases hu; cases hv; exact b01 g hg' hg
   | 1, 1, h, _, _ => exact h rfl
   | 2, _, _, hu, _ => cases hu; cases hg
   | 0, 2, _, _, hv => cases hv; cases hg'
   | 1, 2, _, _, hv => cases hv; cases hg'
   | 0, j + 3, _, _, hv => simp at hv
   | 1, j + 3, _, _, hv => simp at hv
   | i + 3, _, _, hu, _ => simp at hu
theorem lB (x : Value) (g : Pa) (hg : PaOk g) (w : World) (hP : IsP w x g) : Calls Try.prog 36 #[x] w (vQ w (dx g)):=by
 refine ((ly g hg).2 φ00 h00 w [x] (fun _ _ h=>by cases h) (qB w) (AVs.cons (nq hP) .nil).at.1 (AVs.cons (nq hP) .nil).at.2).mono fun e w' ⟨v,he,ho⟩=>?_
 obtain ⟨φ',H,_,ha⟩:=ho [0,1] rfl (by decide) (fun _ _=>rfl)
 obtain ⟨s0,n0,c0,s1,n1,c1,e',h1,h2,h3⟩:=rc (w0:=w) H rfl rfl ha
 exact ⟨s0,n0,c0,s1,n1,c1,by rw [he,e'],h1,h2,h3,H.fr⟩
theorem j7 (x y : Value) (g : Pa) (hg : PaOk g) (s : St) (hO : StOk g s) (h0 : 0 ≤ s.at_) (w : World) (hP : IsP w x g) (hS : IsS w y s) : Calls Try.prog 37 #[x,y] w (uj w (cL g s).1 (cL g s).2):=by
 refine ((j6 g hg s hO h0).2 φ00 h00 w [x,y] (fun _ _ h=>by cases h) (qB w) (AVs.cons (nq hP) (.cons (sX hS) .nil)).at.1 (AVs.cons (nq hP) (.cons (sX hS) .nil)).at.2).mono fun e w' ⟨v,he,ho⟩=>?_
 obtain ⟨φ',H,_,ha⟩:=ho [0,1] rfl (by decide) (fun _ _=>rfl)
 obtain ⟨vs,e1,hv⟩:=rb ha
 match vs,hv with
 | [a, b], .cons a1 (.cons a2 .nil) =>
   have e3 : b = .int .i64 (cL g s).2:=cN a2
   subst e3
   obtain ⟨s0,n0,c0,s1,n1,c1,e',h1,h2,h3⟩:=rc (w0:=w) H rfl rfl a1
   subst e'
   exact ⟨s0,n0,c0,s1,n1,c1,by rw [he,e1],h1,h2,h3,H.fr⟩
def sY (w : World) (g : Pa) (e : Ending) (w' : World) : Prop:=∃ (gO cap : Nat) (cs : List Value),e = .returned (.slice (some ⟨gO,0,none⟩) (nS g + 1) cap) ∧ SgL w.heap.size w'.heap.size w' gO (nS g + 1) cap cs (itS g) ∧ Below w.heap.size w w'
set_option maxRecDepth 100000 in
set_option maxHeartbeats 1000000 in
theorem nK (x : Value) (g : Pa) (hs : cJ g) (w : World) (hP : IsP w x g) : Calls Try.prog 26 #[x] w (sY w g):=by
 have hP0:=hP
 obtain ⟨_,_,_,rfl,⟨s1,n1,c1,rfl,h1⟩,⟨s2,n2,c2,rfl,h2⟩,⟨s3,n3,c3,rfl,h3⟩⟩:=hP
 have HS:=Lib.hid hs
 clear hs
 obtain ⟨i0,hi,hz0,hz1,hz2⟩:=info_parts sW
 go_enter Try.func26,Try.ntmps26
 go_wp2_with fail
 have hB : Blk (w.alloc (.cells #[.slice s1 n1 c1,.slice s2 n2 c2,.slice s3 n3 c3] 32)) w.heap.size [.slice s1 n1 c1,.slice s2 n2 c2,.slice s3 n3 c3] 32:=eu _ _ _
 have hbw : Below w.heap.size w (w.alloc (.cells #[.slice s1 n1 c1,.slice s2 n2 c2,.slice s3 n3 c3] 32)):=aP _ _
 have hz : (w.alloc (.cells #[.slice s1 n1 c1,.slice s2 n2 c2,.slice s3 n3 c3] 32)).heap.size = w.heap.size + 1:=by simp
 generalize w.alloc (.cells #[.slice s1 n1 c1,.slice s2 n2 c2,.slice s3 n3 c3] 32) = w1 at *
 have b0:=hB.cell 0 rfl
 have b1:=hB.cell 1 rfl
 have b2:=hB.cell 2 rfl
 go_wp2_with (go_at_call 36;refine (lB _ _ HS.out.1 _ (hP0.below hbw)).mono ?_;rintro e w2 ⟨t0,m0,d0,t1,m1,d1,rfl,hw2,hr2,hx2,hb2⟩;have hz2:=hb2.size)
 have hbA:=aP w2 (.cells #[.slice t0 m0 d0,.slice t1 m1 d1,.int .i64 (dx g).at_] 46)
 have hB2:=(hB.below hb2).below hbA
 have hbx : Below w.heap.size w (w2.alloc (.cells #[.slice t0 m0 d0,.slice t1 m1 d1,.int .i64 (dx g).at_] 46)):=hbw.trans ((hb2.trans (hbA.mono hz2)).mono hbw.size)
 have hrow : World.ownsRow (w2.alloc (.cells #[.slice t0 m0 d0,.slice t1 m1 d1,.int .i64 (dx g).at_] 46)) w.heap.size 46 3 (.slice (some ⟨w2.heap.size,0,none⟩) 1 1) 1 ([] ++ [.slice t0 m0 d0,.slice t1 m1 d1,.int .i64 (itS g 0).at_]) :=
  ⟨rfl,.inr ⟨w2.heap.size,1,#[.slice t0 m0 d0,.slice t1 m1 d1,.int .i64 (dx g).at_],rfl,by omega,heap_alloc_new _ _,by omega,by decide,rfl,rfl⟩⟩
 have hw : aO w.heap.size (w2.alloc (.cells #[.slice t0 m0 d0,.slice t1 m1 d1,.int .i64 (dx g).at_] 46)).heap.size (w2.alloc (.cells #[.slice t0 m0 d0,.slice t1 m1 d1,.int .i64 (dx g).at_] 46)) (.slice t0 m0 d0) (itS g 0).won:=aO.mono (aY.top (aY.below hw2 hbA)) (by omega) (Nat.le_refl _)
 have hr : aO w.heap.size (w2.alloc (.cells #[.slice t0 m0 d0,.slice t1 m1 d1,.int .i64 (dx g).at_] 46)).heap.size (w2.alloc (.cells #[.slice t0 m0 d0,.slice t1 m1 d1,.int .i64 (dx g).at_] 46)) (.slice t1 m1 d1) (itS g 0).region:=aO.mono (aY.top (aY.below hr2 hbA)) (by omega) (Nat.le_refl _)
 have hsz : w.heap.size < (w2.alloc (.cells #[.slice t0 m0 d0,.slice t1 m1 d1,.int .i64 (dx g).at_] 46)).heap.size:=by simp;omega
 have hG : SgL w.heap.size (w2.alloc (.cells #[.slice t0 m0 d0,.slice t1 m1 d1,.int .i64 (dx g).at_] 46)).heap.size (w2.alloc (.cells #[.slice t0 m0 d0,.slice t1 m1 d1,.int .i64 (dx g).at_] 46)) w2.heap.size 1 1 ([] ++ [.slice t0 m0 d0,.slice t1 m1 d1,.int .i64 (itS g 0).at_]) (itS g):=SgL.first hrow (by simp) hw hr hx2
 clear hb2 hbA hbw hB hw2 hr2 b0 b1 b2
 generalize (w2.alloc (.cells #[.slice t0 m0 d0,.slice t1 m1 d1,.int .i64 (dx g).at_] 46)) = w3 at *
 go_loopw [3] (fun q wr=>∃ (k gO cap : Nat) (cs : List Value),k ≤ nS g ∧ q = .slice (some ⟨gO,0,none⟩) (k + 1) cap ∧ SgL w.heap.size wr.heap.size wr gO (k + 1) cap cs (itS g) ∧ Blk wr w.heap.size [.slice s1 n1 c1,.slice s2 n2 c2,.slice s3 n3 c3] 32 ∧ Below w.heap.size w wr ∧ w.heap.size < wr.heap.size) (fun q _=>nS g + 1 - vP q)
 case atStart=>exact ⟨0,_,_,_,Nat.zero_le _,rfl,hG,hB2,hbx,hsz⟩
 case round =>
  clear hrow hw hr hB2 hbx hsz hG hx2
  obtain ⟨k,gO,cap,cs,hk,rfl,hG,hB,hb,hsz⟩:=hrel
  have hrow:=hG.row
  obtain ⟨t0,m0,d0,p0',hw⟩:=hG.won k (Nat.lt_succ_self k)
  obtain ⟨t1,m1,d1,p1',hr⟩:=hG.reg k (Nat.lt_succ_self k)
  have b0:=hB.cell 0 rfl
  have b1:=hB.cell 1 rfl
  have b2:=hB.cell 2 rfl
  have q0:=di hrow p0'
  have q1:=di hrow p1'
  have q2:=di hrow (hG.num k (Nat.lt_succ_self k))
  have hn30:=(kB HS.out).1
  by_cases hkl : k < nS g
  · have hat:=(kB HS.out).2.2 k hkl
    go_wp2_with fail
    have hbA:=aP wr (.cells #[.slice t0 m0 d0,.slice t1 m1 d1,.int .i64 (itS g k).at_] 46)
    have hzA : (wr.alloc (.cells #[.slice t0 m0 d0,.slice t1 m1 d1,.int .i64 (itS g k).at_] 46)).heap.size = wr.heap.size + 1:=by simp
    have hS : IsS (wr.alloc (.cells #[.slice t0 m0 d0,.slice t1 m1 d1,.int .i64 (itS g k).at_] 46)) (.agg #[.slice t0 m0 d0,.slice t1 m1 d1,.int .i64 (itS g k).at_]) (itS g k):=⟨_,_,rfl,(aO.is (aY.below hw hbA)),(aO.is (aY.below hr hbA))⟩
    refine (j7 _ _ _ HS.out.1 (itS g k) (jQ HS.out hk) hat _ ((hP0.below hb).below hbA) hS).mono ?_
    rintro e w5 ⟨p0,y0,r0,p1,y1,r1,rfl,hw5,hr5,hx5,hb5⟩
    have hB5 : Below wr.heap.size wr w5:=hbA.trans (hb5.mono (by omega))
    have hz5:=hB5.size
    have hbx5:=hb.trans (hB5.mono hb.size)
    have hrow5:=dZ hrow hB5
    have hBx5:=hB.below hB5
    clear hS b0 b1 b2 q0 q1 q2 hbA
    go_wp2_with (refine pw (by rfl) _ _ (by rfl) (by rfl) (dZ (dZ hrow5 (aP _ _)) (aP _ _)) (.slice p0 y0 r0) (.slice p1 y1 r1) (.int .i64 (cL g (itS g k)).1.at_) rfl rfl rfl _ _ (by rfl) (by simp) (by simp) (by simp) (by omega) (by simp;omega) ?_;intro gO' c' w7 h7 g7)
    have hgl:=uh hrow5
    have hgb:=nI hrow5 hBx5 (by decide)
    have hz7:=g7.size
    have hA1:=aP w5 (.cells #[.slice p0 y0 r0,.slice p1 y1 r1,.int .i64 (cL g (itS g k)).1.at_] 46)
    have hA2:=aP (w5.alloc (.cells #[.slice p0 y0 r0,.slice p1 y1 r1,.int .i64 (cL g (itS g k)).1.at_] 46)) (.cells #[.slice p0 y0 r0,.slice p1 y1 r1,.int .i64 (cL g (itS g k)).1.at_] 46)
    have hrow6:=dZ (dZ hrow5 hA1) hA2
    have keep : ∀ (v : Value) (xs : List Int) (lo : Nat),w.heap.size ≤ lo → aO lo w5.heap.size w5 v xs → aO w.heap.size w7.heap.size w7 v xs:=by
     intro v xs lo hlo h
     have h6:=aY.top (aY.below (aY.top (aY.below h hA1)) hA2)
     have hne:=nH hrow6 h6 (by decide)
     exact aO.mono (aY.top (aY.keep h6 (w':=w7) fun q hq=>g7.block q (aY.lt h6 q hq).2.2 fun e=>hne q hq e.symm)) hlo (Nat.le_refl _)
    have hbz : Below w.heap.size w w7:=Below.grown (hbx5.trans ((hA1.trans (hA2.mono (by simp))).mono hbx5.size)) g7 (by simp;omega) fun q hq=>by cases hq;exact hgl
    have hB7 : Blk w7 w.heap.size [.slice s1 n1 c1,.slice s2 n2 c2,.slice s3 n3 c3] 32:=by
     have h:=(hBx5.below hA1).below hA2
     exact (g7.block _ h.lt fun e=>hgb (by injection e with e;exact e.symm)).trans h
    have hlz : w.heap.size ≤ (wr.alloc (.cells #[.slice t0 m0 d0,.slice t1 m1 d1,.int .i64 (itS g k).at_] 46)).heap.size:=by omega
    have hk0:=keep _ _ _ hlz hw5
    have hk1:=keep _ _ _ hlz hr5
    have gt : gO' < w7.heap.size:=by
     rcases h7 with ⟨_,⟨e,_⟩|⟨q,cp,cur,e,_,h8,_⟩⟩
     · cases e
     · simp only [Value.slice.injEq,Option.some.injEq,Addr.mk.injEq,and_true,true_and] at e
       obtain ⟨rfl,-⟩:=e
       exact (Array.getElem?_eq_some_iff.1 h8).1
    have lt5 : ∀ v (xs : List Int),aO (wr.alloc (.cells #[.slice t0 m0 d0,.slice t1 m1 d1,.int .i64 (itS g k).at_] 46)).heap.size w5.heap.size w5 v xs → ∀ q,blk v = some q → wr.heap.size ≤ q:=fun v xs h q hq=>by have:=(aO.blks h q hq).1;omega
    have hG7 : SgL w.heap.size w7.heap.size w7 gO' (k + 1 + 1) c' (cs ++ [.slice p0 y0 r0,.slice p1 y1 r1,.int .i64 (itS g (k + 1)).at_]) (itS g) :=
     hG.push h7 gt (fun v xs h=>keep v xs _ (Nat.le_refl _) (aO.mono (aO.top (aO.below h hB5)) (Nat.le_refl _) (Nat.le_refl _))) hk0 hk1 (lt5 _ _ hw5) (lt5 _ _ hr5) hx5
    go_roundw
    case rel=>exact ⟨k + 1,gO',c',_,by omega,rfl,hG7,hB7,hbz,by have:=hbz.size;(try simp only [World.size_alloc] at hz7);omega⟩
    case measure=>simp [vP];omega
  · have e : k = nS g:=by omega
    subst e
    have hat:=q9 HS.out
    rw [hat] at q2
    go_wp2_with fail
    go_ret
    have hbA:=aP wr (.cells #[.slice t0 m0 d0,.slice t1 m1 d1,.int .i64 (-1)] 46)
    exact ⟨gO,cap,cs,rfl,(hG.below hbA).htop,hb.trans (hbA.mono hb.size)⟩
end Go.Proofs.Ytdkkhhfhdijfmaa
namespace Go.Proofs.Ytdkkhhfhdijfmaa
set_option linter.unusedVariables false
set_option linter.unusedSimpArgs false
open Go.RowKit
attribute [local go_sem ↓] Go.wp_at_zero Go.wp_at_succ
section
variable {lo hi : Nat} {w : World} {gO n cap : Nat} {cs : List Value} {f : Nat → St}
theorem mD {sz m g : Nat} {e : TypeId} {w' : World} {us : List Value} (h : w.ownsRow lo e sz (.slice (some ⟨g,0,none⟩) n cap) m us) (hb : w'.heap[g]? = w.heap[g]?) : w'.ownsRow lo e sz (.slice (some ⟨g,0,none⟩) n cap) m us:=by
 rcases h with ⟨h0,h|⟨g',cp,cur,e,h1,h2,h3⟩⟩
 · exact ⟨h0,.inl h⟩
 · have e':=e
   simp only [Value.slice.injEq,Option.some.injEq,Addr.mk.injEq,and_true] at e'
   obtain ⟨rfl,-⟩:=e'
   exact ⟨h0,.inr ⟨g,cp,cur,e,h1,hb.trans h2,h3⟩⟩
theorem SgL.nofr (h : SgL lo hi w gO n cap cs f) (o : Nat) : w.frozen? ⟨gO,o,none⟩ = false:=by
 rcases h.row with ⟨_,⟨e,_⟩|⟨g',cp,cur,e,h1,h2,_⟩⟩
 · cases e
 · simp only [Value.slice.injEq,Option.some.injEq,Addr.mk.injEq,and_true,true_and] at e
   obtain ⟨rfl,-⟩:=e
   simp [World.frozen?,h2]
theorem SgL.grow (h : SgL lo hi w gO n cap cs f) {w' : World} {i : Nat} {u : Value} {xs : List Int} (hu : cs[i]? = some u) (h0 : aO lo hi w u xs) (hg : w.grownBy w' (blk u)) {f' : Nat → St}
  (hw : ∀ k,k < n → (k * 3 = i → aO lo hi w' u (f' k).won) ∧ (k * 3 ≠ i → (f' k).won = (f k).won)) (hr : ∀ k,k < n → (k * 3 + 1 = i → aO lo hi w' u (f' k).region) ∧ (k * 3 + 1 ≠ i → (f' k).region = (f k).region)) (hn : ∀ k,k < n → (f' k).at_ = (f k).at_) : SgL lo hi w' gO n cap cs f':=by
 have hK : ∀ (j : Nat) (v : Value) (ys : List Int),cs[j]? = some v → j ≠ i → aO lo hi w v ys → aO lo hi w' v ys:=fun j v ys hv hne ho =>
  aO.grown ho hg fun g hb he=>h.sep i j u v g (fun e=>hne e.symm) hu hv he hb
 refine ⟨mD h.row (hg.block _ h.glt.2 fun e=>?_),h.top,fun k hk=>?_,fun k hk=>?_,fun k hk=>by rw [hn k hk];exact h.num k hk,h.sep⟩
 · exact nH h.row h0 (by decide) gO e.symm rfl
 · obtain ⟨s,m,c,h1,h2⟩:=h.won k hk
   refine ⟨s,m,c,h1,?_⟩
   by_cases e : k * 3 = i
   · have:=h1;rw [e,hu] at this;injection this with this;rw [← this];exact (hw k hk).1 e
   · rw [(hw k hk).2 e];exact hK _ _ _ h1 e h2
 · obtain ⟨s,m,c,h1,h2⟩:=h.reg k hk
   refine ⟨s,m,c,h1,?_⟩
   by_cases e : k * 3 + 1 = i
   · have:=h1;rw [e,hu] at this;injection this with this;rw [← this];exact (hr k hk).1 e
   · rw [(hr k hk).2 e];exact hK _ _ _ h1 e h2
theorem SgL.seta (h : SgL lo hi w gO n cap cs f) {j : Nat} (hj : j < n) (x : Int) {f' : Nat → St} (hw : ∀ k,k < n → (f' k).won = (f k).won ∧ (f' k).region = (f k).region) (hx : (f' j).at_ = x) (hn : ∀ k,k < n → k ≠ j → (f' k).at_ = (f k).at_) :
  SgL lo hi (w.setCell ⟨gO,j * 3 + 2,none⟩ (.int .i64 x)) gO n cap (cs.set (j * 3 + 2) (.int .i64 x)) f':=by
 have hl:=h.len
 have hK : ∀ (v : Value) (ys : List Int),aO lo hi w v ys → aO lo hi (w.setCell ⟨gO,j * 3 + 2,none⟩ (.int .i64 x)) v ys:=fun v ys ho =>
  aY.other ho (fun hb=>nH h.row ho (by decide) gO hb rfl) _ _
 refine ⟨?_,h.top,fun k hk=>?_,fun k hk=>?_,fun k hk=>?_,?_⟩
 · rcases h.row with ⟨h0,h1|⟨g',cp,cur,e,h1,h2,h3,h4,h5,h6⟩⟩
   · exact absurd h1.1 (by simp)
   · have e':=e
     simp only [Value.slice.injEq,Option.some.injEq,Addr.mk.injEq,and_true,true_and] at e'
     obtain ⟨rfl,rfl⟩:=e'
     refine ⟨by rw [List.length_set];exact h0,.inr ⟨gO,cap,cur.setIfInBounds (j * 3 + 2) (.int .i64 x),rfl,h1,?_,h3,h4,by rw [Array.size_setIfInBounds];exact h5,?_⟩⟩
     · simp [World.setCell,Array.getElem?_modify,h2]
     · rw [Array.toList_setIfInBounds,List.take_set,h6]
 · obtain ⟨s,m,c,h1,h2⟩:=h.won k hk
   exact ⟨s,m,c,by rw [List.getElem?_set_ne (by omega)];exact h1,by rw [(hw k hk).1];exact hK _ _ h2⟩
 · obtain ⟨s,m,c,h1,h2⟩:=h.reg k hk
   exact ⟨s,m,c,by rw [List.getElem?_set_ne (by omega)];exact h1,by rw [(hw k hk).2];exact hK _ _ h2⟩
 · by_cases e : k = j
   · subst e;rw [List.getElem?_set_self (by omega),hx]
   · rw [List.getElem?_set_ne (by omega),hn k hk e];exact h.num k hk
 · intro i i' u v g hij hu hv hg hg'
   have cl : ∀ (i : Nat) (u : Value),(cs.set (j * 3 + 2) (.int .i64 x))[i]? = some u → cs[i]? = some u ∨ u = Value.int .i64 x:=by
    intro i u hu
    by_cases e : i = j * 3 + 2
    · subst e;rw [List.getElem?_set_self (by omega)] at hu;injection hu with hu;exact .inr hu.symm
    · rw [List.getElem?_set_ne (by omega)] at hu;exact .inl hu
   rcases cl i u hu with a|rfl
   · rcases cl i' v hv with b|rfl
     · exact h.sep i i' u v g hij a b hg hg'
     · cases hg'
   · cases hg
end
set_option maxRecDepth 100000 in
set_option maxHeartbeats 1000000 in
theorem nL {lo hi : Nat} {w : World} {gO n cap : Nat} {cs : List Value} {f : Nat → St} (h : SgL lo hi w gO n cap cs f) (k : Int) (h0 : 0 ≤ k) (hn : n ≤ 1099511627776) (h1 : k + cE f n ≤ 1152921504606846976) (hl : ∀ j,j < n → (f j).won.length ≤ 1048576 ∧ (f j).region.length ≤ 1048576) :
  Calls Try.prog 17 #[.slice (some ⟨gO,0,none⟩) n cap,.int .i64 k] w fun e w'=>e = .returned (.int .i64 (k + cE f n)) ∧ (∃ cs',SgL lo hi w' gO n cap cs' (iM f k)) ∧ Outside lo hi w w':=by
 have HL:=Lib.hid hl
 have H1:=Lib.hid h1
 clear hl h1
 go_enter Try.func17,Try.ntmps17
 go_wp2_with fail
 go_loopw [1,5] (fun q i wr=>∃ (j : Nat) (cs : List Value),j ≤ n ∧ i = .int .i64 j ∧ q = .int .i64 (k + cE f j) ∧ SgL lo hi wr gO n cap cs (fun i=>if i < j then iM f k i else f i) ∧ Outside lo hi w wr) (fun _ i _=>n - (intOf i).toNat)
 case atStart=>exact ⟨0,cs,by omega,rfl,by simp [cE],h.congr fun k hk=>(if_neg (by omega)).symm,Outside.refl _ _ _⟩
 case round =>
  obtain ⟨j,cs,hj,rfl,rfl,hG,hO⟩:=hrel
  have hm:=gA f hj
  have hq:=H1.out
  by_cases hlt : j < n
  · obtain ⟨s0,n0,c0,p0,g0⟩:=hG.won j hlt
    obtain ⟨s1,n1,c1,p1,g1⟩:=hG.reg j hlt
    have q0:=di hG.row p0
    have q1:=di hG.row p1
    simp only [Nat.lt_irrefl,if_false] at g0 g1
    have e0 : n0 = (f j).won.length:=(aO.len g0).symm
    have e1 : n1 = (f j).region.length:=(aO.len g1).symm
    subst e0 e1
    have hS:=gA f (show j + 1 ≤ n from hlt)
    have hs1 : cE f (j + 1) = cE f j + ((f j).won.length + (f j).region.length + 1):=rfl
    have HS:=Lib.hid hs1
    have hl0:=HL.out j hlt
    rw [hs1] at hS
    have p2 : (0 : Int) ≤ k + (cE f j : Nat):=by omega
    clear hs1
    go_wp2_with fail
    refine (eG g0 _ p2 (by omega) hl0.1).mono ?_
    rintro e w2 ⟨rfl,m0,d0⟩
    have hG2:=hG.grow (f':=fun i=>if i = j then ⟨mkI (f j).won.length (k + cE f j),(f j).region,(f j).at_⟩ else if i < j then iM f k i else f i) p0 g0 d0
     (fun i hi => ⟨fun e => by obtain rfl : i = j := by omega
                               rw [if_pos rfl];exact m0,fun e=>by simp only [if_neg (show ¬ i = j by omega)]⟩)
     (fun i hi=>⟨fun e=>by omega,fun e=>by
      by_cases e2 : i = j
      · subst e2;simp
      · simp only [if_neg e2]⟩)
     (fun i hi=>by
      by_cases e2 : i = j
      · subst e2;simp
      · simp only [if_neg e2])
    have hO2:=hO.trans (gS g0 d0)
    obtain ⟨s1',n1',c1',p1',g1'⟩:=hG2.reg j hlt
    rw [p1] at p1'
    simp only [Option.some.injEq,Value.slice.injEq] at p1'
    obtain ⟨rfl,rfl,rfl⟩:=p1'
    rw [if_pos rfl] at g1'
    have q1':=di hG2.row p1
    clear q0 q1 g1 m0 d0
    go_wp2_with fail
    refine (eG g1' _ (by omega) (by omega) hl0.2).mono ?_
    rintro e w3 ⟨rfl,m1,d1⟩
    have hG3:=hG2.grow (f':=fun i=>if i = j then ⟨mkI (f j).won.length (k + cE f j),mkI (f j).region.length (k + cE f j + (f j).won.length),(f j).at_⟩ else if i < j then iM f k i else f i) p1 g1' d1
     (fun i hi=>⟨fun e=>by omega,fun e=>by
      by_cases e2 : i = j
      · subst e2;simp
      · simp only [if_neg e2]⟩)
     (fun i hi => ⟨fun e => by obtain rfl : i = j := by omega
                               rw [if_pos rfl];exact m1,fun e=>by simp only [if_neg (show ¬ i = j by omega)]⟩)
     (fun i hi=>by
      by_cases e2 : i = j
      · subst e2;simp
      · simp only [if_neg e2])
    have hO3:=hO2.trans (gS g1' d1)
    have q2 : w3.cell? ⟨gO,j * 3 + 2,none⟩ = some (.int .i64 (f j).at_):=by
     have:=di hG3.row (hG3.num j hlt)
     rwa [if_pos rfl] at this
    have hfz:=hG3.nofr (j * 3 + 2)
    have hgl:=hG3.glt
    clear q1' m1 d1 g1'
    go_wp2_with fail
    go_roundw
    case rel =>
     refine ⟨j + 1,cs.set (j * 3 + 2) (.int .i64 (k + cE f j + (f j).won.length + (f j).region.length)),hlt,by go_num,by rw [HS.out];congr 1;omega,?_,hO3.set ⟨hgl.1,hG3.top⟩ _⟩
     refine hG3.seta hlt _ (fun i hi=>?_) ?_ (fun i hi hne=>?_)
     · by_cases e : i = j
       · subst e
         simp only [if_pos (Nat.lt_succ_self i),if_true]
         exact ⟨rfl,rfl⟩
       · rw [if_neg e]
         by_cases e2 : i < j
         · rw [if_pos e2,if_pos (by omega)];exact ⟨rfl,rfl⟩
         · rw [if_neg e2,if_neg (by omega)];exact ⟨rfl,rfl⟩
     · rw [if_pos (Nat.lt_succ_self j)];rfl
     · rw [if_neg hne]
       by_cases e2 : i < j
       · rw [if_pos e2,if_pos (by omega)]
       · rw [if_neg e2,if_neg (by omega)]
    case measure=>simp [intOf];omega
  · have e : j = n:=by omega
    subst e
    go_wp2_with fail
    go_ret
    exact ⟨rfl,⟨cs,hG.congr fun k hk=>if_pos hk⟩,hO⟩
end Go.Proofs.Ytdkkhhfhdijfmaa
