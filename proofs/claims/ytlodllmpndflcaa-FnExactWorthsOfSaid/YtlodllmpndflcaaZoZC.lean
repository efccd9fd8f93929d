/-
  Lists of worths in the laws.
-/
import Derived.Test.YtlodllmpndflcaaZoT1
import Derived.Test.YtlodllmpndflcaaZoX8
import Derived.Test.YtlodllmpndflcaaZoLaw
import Derived.Test.YtlodllmpndflcaaZoCb
import Derived.Test.YtlodllmpndflcaaZoI6
import Derived.Test.YtlodllmpndflcaaZoIA
import Derived.Test.YtlodllmpndflcaaZoM3
namespace Go.Proofs.Ytlodllmpndflcaa
set_option linter.unusedVariables false
set_option linter.unusedSimpArgs false
open Go.RowKit
attribute [local go_sem ↓] Go.wp_at_zero Go.wp_at_succ
def jh (w : World) (v : Value) (a : Wt) : Prop:=∃ s n c,v = .agg #[.int .i64 a.hd,.slice s n c,.int .i64 a.wy] ∧ cy w s n c a.ov
theorem jh.below {w w' : World} {v : Value} {a : Wt} (h : jh w v a) (hb : Below w.heap.size w w') : jh w' v a:=let ⟨s,n,c,e,h⟩:=h;⟨s,n,c,e,h.below hb⟩
structure WorL (w : World) (b o n : Nat) (f : Nat → Wt) : Prop where
 lt : b < w.heap.size
 at' : ∀ k,k < n → ∃ s m c,w.cell? ⟨b,o + k * 3,none⟩ = some (.int .i64 (f k).hd) ∧ w.cell? ⟨b,o + k * 3 + 1,none⟩ = some (.slice s m c) ∧ w.cell? ⟨b,o + k * 3 + 2,none⟩ = some (.int .i64 (f k).wy) ∧ cy w s m c (f k).ov
theorem WorL.below {w w' : World} {b o n : Nat} {f : Nat → Wt} (h : WorL w b o n f) (hb : Below w.heap.size w w') : WorL w' b o n f :=
 ⟨Nat.lt_of_lt_of_le h.lt hb.size,fun k hk=>by
  obtain ⟨s,m,c,h0,h1,h2,h3⟩:=h.at' k hk
  exact ⟨s,m,c,aq h0 hb,aq h1 hb,aq h2 hb,h3.below hb⟩⟩
set_option maxHeartbeats 1000000 in
theorem tP (v u : Value) (a : Wt) (w : World) (hA : jh w v a) (hB : jh w u a) : Calls Try.prog 25 #[v,u] w (Bb w true):=by
 obtain ⟨s1,n1,c1,rfl,h1⟩:=hA
 obtain ⟨s2,n2,c2,rfl,h2⟩:=hB
 have d1 : (a.hd != a.hd) = false:=by simp
 have d3 : (a.wy != a.wy) = false:=by simp
 go_enter Try.func25,Try.ntmps25
 go_wp2_with (go_at_call 11;refine (dn _ _ _ _ _ _ _ _ _ (h1.below (by repeat' (first|(with_reducible exact Below.refl _ _)|(with_reducible apply Below.alloc)|(with_reducible apply Below.drew)|(with_reducible apply ap)|omega|(simp only [World.size_alloc,World.size_setCell,World.size_drew];omega)))) (h2.below (by repeat' (first|(with_reducible exact Below.refl _ _)|(with_reducible apply Below.alloc)|(with_reducible apply Below.drew)|(with_reducible apply ap)|omega|(simp only [World.size_alloc,World.size_setCell,World.size_drew];omega))))).mono ?_;rw [aA rfl];rintro e w2 ⟨rfl,m2,rfl⟩)
 go_ret
 exact ⟨rfl,(by repeat' (first|(with_reducible exact Below.refl _ _)|(with_reducible apply Below.alloc)|(with_reducible apply Below.drew)|(with_reducible apply ap)|omega|(simp only [World.size_alloc,World.size_setCell,World.size_drew];omega)))⟩
set_option maxRecDepth 100000 in
set_option maxHeartbeats 1000000 in
theorem tQ (b o n c b' o' c' : Nat) (f : Nat → Wt) (w : World) (hn : n ≤ 1099511627776) (hx : WorL w b o n f) (hy : WorL w b' o' n f) : Calls Try.prog 9 #[.slice (some ⟨b,o,none⟩) n c,.slice (some ⟨b',o',none⟩) n c'] w (Bb w true):=by
 go_enter Try.func9,Try.ntmps9
 go_wp2_with fail
 go_loopw [5] (fun i wr=>∃ k : Nat,k ≤ n ∧ i = .int .i64 k ∧ Below w.heap.size w wr) (fun i _=>n - (intOf i).toNat)
 case atStart=>exact ⟨0,by omega,rfl,Below.refl _ _⟩
 case round =>
  obtain ⟨k,hk,rfl,hb⟩:=hrel
  by_cases hlt : k < n
  · obtain ⟨s0,n0,c0,h0,h1,h2,h3⟩:=(hx.below hb).at' k hlt
    obtain ⟨t0,m0,d0,g0,g1,g2,g3⟩:=(hy.below hb).at' k hlt
    have hA : jh wr (.agg #[.int .i64 (f k).hd,.slice s0 n0 c0,.int .i64 (f k).wy]) (f k):=⟨_,_,_,rfl,h3⟩
    have hB : jh wr (.agg #[.int .i64 (f k).hd,.slice t0 m0 d0,.int .i64 (f k).wy]) (f k):=⟨_,_,_,rfl,g3⟩
    have i0 : (0 : Int) ≤ (k : Int):=by omega
    have i1 : (k : Int) < (n : Int):=by omega
    go_wp2_with fail
    go_region_held3 (fun w'=>w'.cell? ⟨b,o + k * 3,none⟩ = some (.int .i64 (f k).hd) ∧ w'.cell? ⟨b,o + k * 3 + 1,none⟩ = some (.slice s0 n0 c0) ∧ w'.cell? ⟨b,o + k * 3 + 2,none⟩ = some (.int .i64 (f k).wy) ∧ w'.cell? ⟨b',o' + k * 3,none⟩ = some (.int .i64 (f k).hd) ∧ w'.cell? ⟨b',o' + k * 3 + 1,none⟩ = some (.slice t0 m0 d0) ∧ w'.cell? ⟨b',o' + k * 3 + 2,none⟩ = some (.int .i64 (f k).wy)) (first|exact ⟨h0,h1,h2,g0,g1,g2⟩|exact ⟨aq h0 hB5,aq h1 hB5,aq h2 hB5,aq g0 hB5,aq g1 hB5,aq g2 hB5⟩|go_keep)
     (first
      | (go_at_call 25; refine (tP _ _ _ _ (hA.below (by repeat' (first | (with_reducible exact Below.refl _ _) | (with_reducible assumption) | (with_reducible apply aB) | (with_reducible apply Below.alloc) | (with_reducible apply Below.drew) | (with_reducible apply ap) | (with_reducible refine Below.trans ?_ (Below.mono (by assumption) ?_)) | omega | (simp only [World.size_alloc, World.size_setCell, World.size_drew]; omega)))) (hB.below (by repeat' (first | (with_reducible exact Below.refl _ _) | (with_reducible assumption) | (with_reducible apply aB) | (with_reducible apply Below.alloc) | (with_reducible apply Below.drew) | (with_reducible apply ap) | (with_reducible refine Below.trans ?_ (Below.mono (by assumption) ?_)) | omega | (simp only [World.size_alloc, World.size_setCell, World.size_drew]; omega))))).mono ?_; rintro e w5 ⟨rfl, hb5⟩; have hB5 : Below wr.heap.size wr w5 := (by repeat' (first | (with_reducible exact Below.refl _ _) | (with_reducible assumption) | (with_reducible apply aB) | (with_reducible apply Below.alloc) | (with_reducible apply Below.drew) | (with_reducible apply ap) | (with_reducible refine Below.trans ?_ (Below.mono (by assumption) ?_)) | omega | (simp only [World.size_alloc, World.size_setCell, World.size_drew]; omega)))))
    all_goals
     go_wp2_with fail
     go_roundw
    all_goals first
     | (case rel => exact ⟨k + 1, by omega, by go_num, hb.trans (hB5.mono hb.size)⟩)
     | (case measure => simp [intOf]; omega)
  · go_wp2_with fail
    go_ret
    exact ⟨rfl,hb⟩
def cx (f : Nat → Wt) : Nat → Nat
 | 0 => 0
 | k + 1 => cx f k + ((f k).ov.length + 2)
theorem fN (f : Nat → Wt) {j k : Nat} (h : j ≤ k) : cx f j ≤ cx f k:=by
 induction k with
 | zero => obtain rfl : j = 0 := by omega
           exact Nat.le_refl _
 | succ k ih =>
   by_cases e : j = k + 1
   · subst e;exact Nat.le_refl _
   · have:=ih (by omega);simp only [cx];omega
def iv (f : Nat → Wt) (k : Int) (j : Nat) : Wt:=⟨k + cx f j,mkI (f j).ov.length (k + cx f j + 1),k + cx f j + 1 + (f j).ov.length⟩
set_option maxRecDepth 100000 in
set_option maxHeartbeats 1000000 in
theorem mO (b o n c : Nat) (f : Nat → Wt) (k : Int) (w : World) (hn : n ≤ 1099511627776) (h0 : 0 ≤ k) (h1 : k + cx f n ≤ 1152921504606846976) (hl : ∀ j,j < n → (f j).ov.length ≤ 1048576) (h : WorL w b o n (iv f k)) :
  Calls Try.prog 15 #[.slice (some ⟨b,o,none⟩) n c,.int .i64 k] w fun e w'=>e = .returned (.int .i64 (k + cx f n)) ∧ w = w':=by
 have HL:=Lib.hid hl
 have H1:=Lib.hid h1
 clear hl h1
 go_enter Try.func15,Try.ntmps15
 go_wp2_with fail
 go_loop [1,5] (fun q i=>∃ j : Nat,j ≤ n ∧ i = .int .i64 j ∧ q = .int .i64 (k + cx f j)) (fun _ i=>n - (intOf i).toNat)
 case atStart=>exact ⟨0,by omega,rfl,by simp [cx]⟩
 case round =>
  obtain ⟨j,hj,rfl,rfl⟩:=hrel
  have hm:=fN f hj
  have hq:=H1.out
  by_cases hlt : j < n
  · obtain ⟨s0,n0,c0,g0,g1,g2,g3⟩:=h.at' j hlt
    have e0 : n0 = (f j).ov.length:=by have:=g3.1;simp only [iv,mkI,dG] at this;omega
    subst e0
    have hS:=fN f (show j + 1 ≤ n from hlt)
    have hs1 : cx f (j + 1) = cx f j + ((f j).ov.length + 2):=rfl
    have HS:=Lib.hid hs1
    have hl0:=HL.out j hlt
    rw [hs1] at hS
    have p0 : (0 : Int) ≤ k + (cx f j : Nat) + 1:=by omega
    have p1 : ¬ (k + (cx f j : Nat) + 1 + ((f j).ov.length : Nat) < 0):=by omega
    have G3 : IsI w (.slice s0 (f j).ov.length c0) (mkI (f j).ov.length (k + (cx f j : Nat) + 1)):=g3.is
    have G0 : w.cell? ⟨b,o + j * 3,none⟩ = some (.int .i64 (k + (cx f j : Nat))):=g0
    have G2 : w.cell? ⟨b,o + j * 3 + 2,none⟩ = some (.int .i64 (k + (cx f j : Nat) + 1 + ((f j).ov.length : Nat))):=g2
    clear g0 g2 g3 hs1
    go_wp2_with fail
    refine (nP _ G3 p0 (by omega) hl0).mono ?_
    rintro e w' ⟨rfl,rfl⟩
    go_wp2_with fail
    go_roundw
    case rel =>
     refine ⟨j + 1,by omega,by (first|rfl|go_num),?_⟩
     rw [HS.out];congr 1;omega
    case measure=>simp [intOf];omega
  · have e : j = n:=by omega
    subst e
    go_wp2_with fail
    go_ret
    exact ⟨rfl,rfl⟩
end Go.Proofs.Ytlodllmpndflcaa
namespace Go.Proofs.Ytlodllmpndflcaa
set_option linter.unusedVariables false
set_option linter.unusedSimpArgs false
open Go.RowKit
attribute [local go_sem ↓] Go.wp_at_zero Go.wp_at_succ
theorem nI {lo lo' hi' n sz : Nat} {e e' : TypeId} {w : World} {v u : Value} {xs us : List Value} (h : w.ownsRow lo e sz v n xs) (k : bH e' lo' hi' w u us) (hne : e ≠ e') : ∀ q,blk u = some q → v.ownBlock ≠ some q:=by
 intro q hq hv
 rcases h with ⟨_,⟨rfl,_⟩|⟨g,cap,cur,rfl,_,h1,_⟩⟩
 · cases hv
 · simp only [Value.ownBlock,Option.some.injEq] at hv
   subst hv
   rcases k with ⟨rfl,_⟩|⟨g',cap',cur',rfl,_,_,k1,_⟩
   · cases hq
   · simp only [blk,Value.ownBlock,Option.some.injEq] at hq
     subst hq
     rw [h1] at k1
     simp only [Option.some.injEq,Obj.cells.injEq] at k1
     exact hne k1.2.1
theorem cG {lo n cap sz g : Nat} {e : TypeId} {w : World} {xs : List Value} (h : w.ownsRow lo e sz (.slice (some ⟨g,0,none⟩) n cap) n xs) {j : Nat} {u : Value} (hj : xs[j]? = some u) : w.cell? ⟨g,j,none⟩ = some u:=by
 have h1:=h.cells (g:=g) rfl j u hj
 have e : (⟨g,0,none⟩ : Addr).add j = ⟨g,j,none⟩:=by
  unfold Addr.add
  cases j with
  | zero => simp
  | succ j => simp
 rw [e] at h1
 exact h1
theorem fL {lo n cap sz m g : Nat} {e : TypeId} {w w' : World} {us : List Value} (h : w.ownsRow lo e sz (.slice (some ⟨g,0,none⟩) n cap) m us) (hb : w'.heap[g]? = w.heap[g]?) : w'.ownsRow lo e sz (.slice (some ⟨g,0,none⟩) n cap) m us:=by
 rcases h with ⟨h0,h|⟨g',cp,cur,e,h1,h2,h3⟩⟩
 · exact ⟨h0,.inl h⟩
 · have e':=e
   simp only [Value.slice.injEq,Option.some.injEq,Addr.mk.injEq,and_true] at e'
   obtain ⟨rfl,-⟩:=e'
   exact ⟨h0,.inr ⟨g,cp,cur,e,h1,hb.trans h2,h3⟩⟩
theorem lW {lo n cap sz g : Nat} {e : TypeId} {w : World} {cs : List Value} (h : w.ownsRow lo e sz (.slice (some ⟨g,0,none⟩) n cap) n cs) (i : Nat) (u : Value) : (w.setCell ⟨g,i,none⟩ u).ownsRow lo e sz (.slice (some ⟨g,0,none⟩) n cap) n (cs.set i u):=by
 rcases h with ⟨h0,h1|⟨g',cp,cur,e,h1,h2,h3,h4,h5,h6⟩⟩
 · exact absurd h1.1 (by simp)
 · have e':=e
   simp only [Value.slice.injEq,Option.some.injEq,Addr.mk.injEq,and_true,true_and] at e'
   obtain ⟨rfl,rfl⟩:=e'
   refine ⟨by rw [List.length_set];exact h0,.inr ⟨g,cap,cur.setIfInBounds i u,rfl,h1,?_,h3,h4,by rw [Array.size_setIfInBounds];exact h5,?_⟩⟩
   · simp [World.setCell,Array.getElem?_modify,h2]
   · rw [Array.toList_setIfInBounds,List.take_set,h6]
structure WgL (lo hi : Nat) (w : World) (gO n cap : Nat) (cs : List Value) (f : Nat → Wt) : Prop where
 row : w.ownsRow lo 51 3 (.slice (some ⟨gO,0,none⟩) n cap) n cs
 top : gO < hi
 hd : ∀ k,k < n → cs[k * 3]? = some (.int .i64 (f k).hd)
 ov : ∀ k,k < n → ∃ s m c,cs[k * 3 + 1]? = some (.slice s m c) ∧ bj lo hi w (.slice s m c) (f k).ov
 wy : ∀ k,k < n → cs[k * 3 + 2]? = some (.int .i64 (f k).wy)
 sep : ∀ (i j : Nat) (u v : Value) (g : Nat),i ≠ j → cs[i]? = some u → cs[j]? = some v → blk u = some g → blk v ≠ some g
section
variable {lo hi : Nat} {w : World} {gO n cap : Nat} {cs : List Value} {f : Nat → Wt}
theorem WgL.len (h : WgL lo hi w gO n cap cs f) : cs.length = n * 3:=h.row.1
theorem WgL.cell (h : WgL lo hi w gO n cap cs f) {i : Nat} {u : Value} (hi' : cs[i]? = some u) : (∃ xs,bj lo hi w u xs) ∨ ∃ x,u = .int .i64 x:=by
 have hl : i < n * 3:=by rw [← h.len];exact (List.getElem?_eq_some_iff.1 hi').1
 have h3 : i = i / 3 * 3 + i % 3:=by omega
 have hk : i / 3 < n:=by omega
 rcases (show i % 3 = 0 ∨ i % 3 = 1 ∨ i % 3 = 2 by omega) with e|e|e
 · have h1:=h.hd _ hk
   rw [show i / 3 * 3 = i by omega,hi'] at h1
   injection h1 with h1;exact .inr ⟨_,h1⟩
 · obtain ⟨s,m,c,h1,h2⟩:=h.ov _ hk
   rw [show i / 3 * 3 + 1 = i by omega,hi'] at h1
   injection h1 with h1;subst h1;exact .inl ⟨_,h2⟩
 · have h1:=h.wy _ hk
   rw [show i / 3 * 3 + 2 = i by omega,hi'] at h1
   injection h1 with h1;exact .inr ⟨_,h1⟩
theorem WgL.lt (h : WgL lo hi w gO n cap cs f) {i : Nat} {u : Value} (hi' : cs[i]? = some u) : ∀ g,blk u = some g → lo ≤ g ∧ g < hi:=by
 intro g hg
 rcases h.cell hi' with ⟨xs,h1⟩|⟨x,rfl⟩
 · exact bj.blks h1 g hg
 · cases hg
theorem WgL.keep (h : WgL lo hi w gO n cap cs f) {hi' : Nat} {w' : World} (hr : w'.ownsRow lo 51 3 (.slice (some ⟨gO,0,none⟩) n cap) n cs) (ht : gO < hi') (hK : ∀ v xs,bj lo hi w v xs → bj lo hi' w' v xs) : WgL lo hi' w' gO n cap cs f :=
 ⟨hr,ht,h.hd,fun k hk=>by obtain ⟨s,m,c,h1,h2⟩:=h.ov k hk;exact ⟨s,m,c,h1,hK _ _ h2⟩,h.wy,h.sep⟩
theorem WgL.glt (h : WgL lo hi w gO n cap cs f) : lo ≤ gO ∧ gO < w.heap.size:=by
 rcases h.row with ⟨_,⟨e,_⟩|⟨g,cp,cur,e,hg,h2,_⟩⟩
 · cases e
 · simp only [Value.slice.injEq,Option.some.injEq,Addr.mk.injEq,and_true,true_and] at e
   obtain ⟨rfl,-⟩:=e
   exact ⟨hg,(Array.getElem?_eq_some_iff.1 h2).1⟩
theorem WgL.below (h : WgL lo hi w gO n cap cs f) {w' : World} (hb : Below w.heap.size w w') : WgL lo hi w' gO n cap cs f :=
 h.keep (fL h.row (hb.block gO h.glt.2)) h.top fun v xs h=>bj.below h hb
theorem WgL.mono (h : WgL lo hi w gO n cap cs f) {lo' hi' : Nat} (hl : lo' ≤ lo) (hh : hi ≤ hi') : WgL lo' hi' w gO n cap cs f:=by
 have ht:=h.top
 refine ⟨?_,by omega,h.hd,fun k hk=>by obtain ⟨s,m,c,h1,h2⟩:=h.ov k hk;exact ⟨s,m,c,h1,bj.mono h2 hl hh⟩,h.wy,h.sep⟩
 rcases h.row with ⟨h0,h1|⟨g,cp,cur,e,hg,h2⟩⟩
 · exact ⟨h0,.inl h1⟩
 · exact ⟨h0,.inr ⟨g,cp,cur,e,by omega,h2⟩⟩
theorem WgL.htop (h : WgL lo hi w gO n cap cs f) : WgL lo w.heap.size w gO n cap cs f :=
 h.keep h.row h.glt.2 fun v xs h=>bj.top h
theorem WgL.congr (h : WgL lo hi w gO n cap cs f) {f' : Nat → Wt} (hf : ∀ k,k < n → f k = f' k) : WgL lo hi w gO n cap cs f' :=
 ⟨h.row,h.top,fun k hk=>by rw [← hf k hk];exact h.hd k hk,fun k hk=>by rw [← hf k hk];exact h.ov k hk,fun k hk=>by rw [← hf k hk];exact h.wy k hk,h.sep⟩
theorem WgL.worL (h : WgL lo hi w gO n cap cs f) : WorL w gO 0 n f:=by
 refine ⟨h.glt.2,fun k hk=>?_⟩
 obtain ⟨s,m,c,h1,h2⟩:=h.ov k hk
 have q0:=cG h.row (h.hd k hk)
 have q1:=cG h.row h1
 have q2:=cG h.row (h.wy k hk)
 refine ⟨s,m,c,?_,?_,?_,(bj.is h2).ints⟩
 · rw [Nat.zero_add];exact q0
 · rw [Nat.zero_add];exact q1
 · rw [Nat.zero_add];exact q2
theorem WgL.nofr (h : WgL lo hi w gO n cap cs f) (o : Nat) : w.frozen? ⟨gO,o,none⟩ = false:=by
 rcases h.row with ⟨_,⟨e,_⟩|⟨g',cp,cur,e,h1,h2,_⟩⟩
 · cases e
 · simp only [Value.slice.injEq,Option.some.injEq,Addr.mk.injEq,and_true,true_and] at e
   obtain ⟨rfl,-⟩:=e
   simp [World.frozen?,h2]
theorem WgL.grow (h : WgL lo hi w gO n cap cs f) {w' : World} {i : Nat} {u : Value} {xs : List Int} (hu : cs[i]? = some u) (h0 : bj lo hi w u xs) (hg : w.grownBy w' (blk u)) {f' : Nat → Wt}
  (ho : ∀ k,k < n → (k * 3 + 1 = i → bj lo hi w' u (f' k).ov) ∧ (k * 3 + 1 ≠ i → (f' k).ov = (f k).ov)) (hn : ∀ k,k < n → (f' k).hd = (f k).hd ∧ (f' k).wy = (f k).wy) : WgL lo hi w' gO n cap cs f':=by
 have hK : ∀ (j : Nat) (v : Value) (ys : List Int),cs[j]? = some v → j ≠ i → bj lo hi w v ys → bj lo hi w' v ys:=fun j v ys hv hne ho =>
  bj.grown ho hg fun g hb he=>h.sep i j u v g (fun e=>hne e.symm) hu hv he hb
 refine ⟨fL h.row (hg.block _ h.glt.2 fun e=>?_),h.top,fun k hk=>by rw [(hn k hk).1];exact h.hd k hk,fun k hk=>?_,fun k hk=>by rw [(hn k hk).2];exact h.wy k hk,h.sep⟩
 · exact nI h.row h0 (by decide) gO e.symm rfl
 · obtain ⟨s,m,c,h1,h2⟩:=h.ov k hk
   refine ⟨s,m,c,h1,?_⟩
   by_cases e : k * 3 + 1 = i
   · have:=h1;rw [e,hu] at this;injection this with this;rw [← this];exact (ho k hk).1 e
   · rw [(ho k hk).2 e];exact hK _ _ _ h1 e h2
theorem WgL.other (h : WgL lo hi w gO n cap cs f) {v : Value} {ys : List Int} (ho : bj lo hi w v ys) (i : Nat) (u : Value) : bj lo hi (w.setCell ⟨gO,i,none⟩ u) v ys :=
 bH.other ho (fun hb=>nI h.row ho (by decide) gO hb rfl) _ _
theorem WgL.seti (h : WgL lo hi w gO n cap cs f) {i : Nat} (hin : i < n * 3) (hi1 : i % 3 ≠ 1) (x : Int) {f' : Nat → Wt} (hh : ∀ k,k < n → (k * 3 = i → (f' k).hd = x) ∧ (k * 3 ≠ i → (f' k).hd = (f k).hd)) (hw : ∀ k,k < n → (k * 3 + 2 = i → (f' k).wy = x) ∧ (k * 3 + 2 ≠ i → (f' k).wy = (f k).wy)) (ho : ∀ k,k < n → (f' k).ov = (f k).ov) :
  WgL lo hi (w.setCell ⟨gO,i,none⟩ (.int .i64 x)) gO n cap (cs.set i (.int .i64 x)) f':=by
 have hl:=h.len
 refine ⟨lW h.row _ _,h.top,fun k hk=>?_,fun k hk=>?_,fun k hk=>?_,?_⟩
 · by_cases e : k * 3 = i
   · rw [← e,List.getElem?_set_self (by omega),(hh k hk).1 e]
   · rw [List.getElem?_set_ne (fun e'=>e e'.symm),(hh k hk).2 e];exact h.hd k hk
 · obtain ⟨s,m,c,h1,h2⟩:=h.ov k hk
   exact ⟨s,m,c,by rw [List.getElem?_set_ne (by omega)];exact h1,by rw [ho k hk];exact h.other h2 _ _⟩
 · by_cases e : k * 3 + 2 = i
   · rw [← e,List.getElem?_set_self (by omega),(hw k hk).1 e]
   · rw [List.getElem?_set_ne (fun e'=>e e'.symm),(hw k hk).2 e];exact h.wy k hk
 · intro a b u v g hij hu hv hg hg'
   have cl : ∀ (j : Nat) (u : Value),(cs.set i (.int .i64 x))[j]? = some u → cs[j]? = some u ∨ u = Value.int .i64 x:=by
    intro j u hu
    by_cases e : j = i
    · subst e;rw [List.getElem?_set_self (by omega)] at hu;injection hu with hu;exact .inr hu.symm
    · rw [List.getElem?_set_ne (fun e'=>e e'.symm)] at hu;exact .inl hu
   rcases cl a u hu with a1|rfl
   · rcases cl b v hv with b1|rfl
     · exact h.sep a b u v g hij a1 b1 hg hg'
     · cases hg'
   · cases hg
theorem WgL.seto (h : WgL lo hi w gO n cap cs f) {j : Nat} (hj : j < n) {s : Option Addr} {m c : Nat} {xs : List Int} (hx : bj lo hi w (.slice s m c) xs) (hd : ∀ g,blk (.slice s m c) = some g → ∀ (i : Nat) (u : Value),cs[i]? = some u → blk u ≠ some g) {f' : Nat → Wt} (hh : ∀ k,k < n → (f' k).hd = (f k).hd ∧ (f' k).wy = (f k).wy) (ho : (f' j).ov = xs) (ho' : ∀ k,k < n → k ≠ j → (f' k).ov = (f k).ov) :
  WgL lo hi (w.setCell ⟨gO,j * 3 + 1,none⟩ (.slice s m c)) gO n cap (cs.set (j * 3 + 1) (.slice s m c)) f':=by
 have hl:=h.len
 refine ⟨lW h.row _ _,h.top,fun k hk=>?_,fun k hk=>?_,fun k hk=>?_,?_⟩
 · rw [List.getElem?_set_ne (by omega),(hh k hk).1];exact h.hd k hk
 · by_cases e : k = j
   · subst e
     exact ⟨s,m,c,by rw [List.getElem?_set_self (by omega)],by rw [ho];exact h.other hx _ _⟩
   · obtain ⟨s',m',c',h1,h2⟩:=h.ov k hk
     exact ⟨s',m',c',by rw [List.getElem?_set_ne (by omega)];exact h1,by rw [ho' k hk e];exact h.other h2 _ _⟩
 · rw [List.getElem?_set_ne (by omega),(hh k hk).2];exact h.wy k hk
 · intro a b u v g hij hu hv hg hg'
   have cl : ∀ (i : Nat) (u : Value),(cs.set (j * 3 + 1) (.slice s m c))[i]? = some u → (i ≠ j * 3 + 1 ∧ cs[i]? = some u) ∨ (i = j * 3 + 1 ∧ u = .slice s m c):=by
    intro i u hu
    by_cases e : i = j * 3 + 1
    · rw [e,List.getElem?_set_self (by omega)] at hu;injection hu with hu;exact .inr ⟨e,hu.symm⟩
    · rw [List.getElem?_set_ne (fun e'=>e e'.symm)] at hu;exact .inl ⟨e,hu⟩
   rcases cl a u hu with ⟨_,a1⟩|⟨a1,rfl⟩
   · rcases cl b v hv with ⟨_,b1⟩|⟨b1,rfl⟩
     · exact h.sep a b u v g hij a1 b1 hg hg'
     · exact hd g hg' a u a1 hg
   · rcases cl b v hv with ⟨_,b1⟩|⟨b1,rfl⟩
     · exact hd g hg b v b1 hg'
     · omega
end
theorem WgL.set3 {lo hi : Nat} {w : World} {gO n cap : Nat} {cs : List Value} {f : Nat → Wt} (h : WgL lo hi w gO n cap cs f) {j : Nat} (hj : j < n) (a : Wt) {s : Option Addr} {m c : Nat} (hx : bj lo hi w (.slice s m c) a.ov) (hd : ∀ g,blk (.slice s m c) = some g → ∀ (i : Nat) (u : Value),cs[i]? = some u → blk u ≠ some g) :
  WgL lo hi (((w.setCell ⟨gO,j * 3,none⟩ (.int .i64 a.hd)).setCell ⟨gO,j * 3 + 1,none⟩ (.slice s m c)).setCell ⟨gO,j * 3 + 2,none⟩ (.int .i64 a.wy)) gO n cap (((cs.set (j * 3) (.int .i64 a.hd)).set (j * 3 + 1) (.slice s m c)).set (j * 3 + 2) (.int .i64 a.wy)) (fun i=>if i = j then a else f i):=by
 have hl:=h.len
 have h1:=h.seti (i:=j * 3) (by omega) (by omega) a.hd (f':=fun i=>if i = j then ⟨a.hd,(f j).ov,(f j).wy⟩ else f i) (fun k hk=>⟨fun e=>by rw [if_pos (by omega)],fun e=>by rw [if_neg (by omega)]⟩) (fun k hk=>⟨fun e=>by omega,fun e=>by by_cases q : k = j <;> simp [q]⟩) (fun k hk=>by by_cases q : k = j <;> simp [q])
 have h2:=h1.seto hj (h.other hx _ _) (f':=fun i=>if i = j then ⟨a.hd,a.ov,(f j).wy⟩ else f i) (fun g hg i u hu=>by
  by_cases e : i = j * 3
  · rw [e,List.getElem?_set_self (by omega)] at hu
    injection hu with hu
    rw [← hu];intro h;cases h
  · rw [List.getElem?_set_ne (fun e'=>e e'.symm)] at hu
    exact hd g hg i u hu) (fun k hk=>by by_cases q : k = j <;> simp [q]) (by rw [if_pos rfl]) (fun k hk hne=>by rw [if_neg hne,if_neg hne])
 refine h2.seti (i:=j * 3 + 2) (by omega) (by omega) a.wy (fun k hk=>⟨fun e=>by omega,fun e=>by by_cases q : k = j <;> simp [q]⟩) (fun k hk=>⟨fun e=>by rw [if_pos (by omega)],fun e=>by rw [if_neg (by omega),if_neg (by omega)]⟩) (fun k hk=>by by_cases q : k = j <;> simp [q])
set_option maxRecDepth 100000 in
set_option maxHeartbeats 1000000 in
theorem mP {lo hi : Nat} {w : World} {gO n cap : Nat} {cs : List Value} {f : Nat → Wt} (h : WgL lo hi w gO n cap cs f) (k : Int) (h0 : 0 ≤ k) (hn : n ≤ 1099511627776) (h1 : k + cx f n ≤ 1152921504606846976) (hl : ∀ j,j < n → (f j).ov.length ≤ 1048576) :
  Calls Try.prog 14 #[.slice (some ⟨gO,0,none⟩) n cap,.int .i64 k] w fun e w'=>e = .returned (.int .i64 (k + cx f n)) ∧ (∃ cs',WgL lo hi w' gO n cap cs' (iv f k)) ∧ Outside lo hi w w':=by
 have HL:=Lib.hid hl
 have H1:=Lib.hid h1
 clear hl h1
 go_enter Try.func14,Try.ntmps14
 go_wp2_with fail
 go_loopw [1,5] (fun q i wr=>∃ (j : Nat) (cs : List Value),j ≤ n ∧ i = .int .i64 j ∧ q = .int .i64 (k + cx f j) ∧ WgL lo hi wr gO n cap cs (fun i=>if i < j then iv f k i else f i) ∧ Outside lo hi w wr) (fun _ i _=>n - (intOf i).toNat)
 case atStart=>exact ⟨0,cs,by omega,rfl,by simp [cx],h.congr fun k hk=>(if_neg (by omega)).symm,Outside.refl _ _ _⟩
 case round =>
  obtain ⟨j,cs,hj,rfl,rfl,hG,hO⟩:=hrel
  have hm:=fN f hj
  have hq:=H1.out
  by_cases hlt : j < n
  · have hS:=fN f (show j + 1 ≤ n from hlt)
    have hs1 : cx f (j + 1) = cx f j + ((f j).ov.length + 2):=rfl
    have HS:=Lib.hid hs1
    have hl0:=HL.out j hlt
    rw [hs1] at hS
    have p2 : (0 : Int) ≤ k + (cx f j : Nat) + 1:=by omega
    clear hs1
    have q0:=cG hG.row (hG.hd j hlt)
    have f0:=hG.nofr (j * 3)
    have hgl:=hG.glt
    have htp:=hG.top
    have hG1:=hG.seti (i:=j * 3) (by omega) (by omega) (k + (cx f j : Nat)) (f':=fun i=>if i = j then ⟨k + (cx f j : Nat),(f j).ov,(f j).wy⟩ else if i < j then iv f k i else f i)
     (fun i hi=>⟨fun e=>by rw [if_pos (by omega)],fun e=>by rw [if_neg (by omega)]⟩)
     (fun i hi=>⟨fun e=>by omega,fun e=>by
      by_cases e2 : i = j
      · subst e2;simp
      · simp only [if_neg e2]⟩)
     (fun i hi=>by
      by_cases e2 : i = j
      · subst e2;simp
      · simp only [if_neg e2])
    have hO1 : Outside lo hi w (wr.setCell ⟨gO,j * 3,none⟩ (.int .i64 (k + (cx f j : Nat)))):=hO.set ⟨hgl.1,htp⟩ _
    obtain ⟨s0,n0,c0,p0,g0⟩:=hG1.ov j hlt
    have q1:=cG hG1.row p0
    rw [if_pos rfl] at g0
    have e0 : n0 = (f j).ov.length:=(bj.len g0).symm
    subst e0
    go_wp2_with fail
    refine (ep g0 _ p2 (by omega) hl0).mono ?_
    rintro e w2 ⟨rfl,m0,d0⟩
    have hG2:=hG1.grow (f':=fun i=>if i = j then ⟨k + (cx f j : Nat),mkI (f j).ov.length (k + cx f j + 1),(f j).wy⟩ else if i < j then iv f k i else f i) p0 g0 d0
     (fun i hi => ⟨fun e => by obtain rfl : i = j := by omega
                               rw [if_pos rfl];exact m0,fun e=>by simp only [if_neg (show ¬ i = j by omega)]⟩)
     (fun i hi=>by
      by_cases e2 : i = j
      · subst e2;simp
      · simp only [if_neg e2];exact ⟨trivial,trivial⟩)
    have hO2:=hO1.trans (eN g0 d0)
    have q2 : w2.cell? ⟨gO,j * 3 + 2,none⟩ = some (.int .i64 (f j).wy):=by
     have:=cG hG2.row (hG2.wy j hlt)
     rwa [if_pos rfl] at this
    have hfz:=hG2.nofr (j * 3 + 2)
    have hgl2:=hG2.glt
    clear q0 q1 m0 d0 g0
    go_wp2_with fail
    go_roundw
    case rel =>
     refine ⟨j + 1,_,hlt,by go_num,by rw [HS.out];congr 1;omega,hG2.seti (i:=j * 3 + 2) (by omega) (by omega) (k + (cx f j : Nat) + 1 + ((f j).ov.length : Nat)) (fun i hi=>?_) (fun i hi=>?_) (fun i hi=>?_),hO2.set ⟨hgl2.1,htp⟩ _⟩
     · refine ⟨fun e=>by omega,fun e=>?_⟩
       by_cases e : i = j
       · subst e
         rw [if_pos (Nat.lt_succ_self i),if_pos rfl];rfl
       · rw [if_neg e]
         by_cases e2 : i < j
         · rw [if_pos e2,if_pos (by omega)]
         · rw [if_neg e2,if_neg (by omega)]
     · refine ⟨fun e=>?_,fun e=>?_⟩
       · obtain rfl : i = j:=by omega
         rw [if_pos (Nat.lt_succ_self i)];rfl
       · rw [if_neg (show ¬ i = j by omega)]
         by_cases e2 : i < j
         · rw [if_pos e2,if_pos (by omega)]
         · rw [if_neg e2,if_neg (by omega)]
     · by_cases e : i = j
       · subst e
         rw [if_pos (Nat.lt_succ_self i),if_pos rfl];rfl
       · rw [if_neg e]
         by_cases e2 : i < j
         · rw [if_pos e2,if_pos (by omega)]
         · rw [if_neg e2,if_neg (by omega)]
    case measure=>simp [intOf];omega
  · have e : j = n:=by omega
    subst e
    go_wp2_with fail
    go_ret
    exact ⟨rfl,⟨cs,hG.congr fun k hk=>if_pos hk⟩,hO⟩
end Go.Proofs.Ytlodllmpndflcaa
namespace Go.Proofs.Ytlodllmpndflcaa
set_option linter.unusedVariables false
set_option linter.unusedSimpArgs false
open Go.RowKit
attribute [local go_sem ↓] Go.wp_at_zero Go.wp_at_succ
abbrev Wg:=Nat × (Nat → Wt)
def mQ (p : Wg) : Prop:=p.1 ≤ 1099511627776 ∧ (∀ j,j < p.1 → (p.2 j).ov.length ≤ 1048576) ∧ cx p.2 p.1 ≤ 576460752303423488
def jj (w : World) (v : Value) (p : Wg) : Prop:=mQ p ∧ ∃ s c,v = .slice s p.1 c ∧ (p.1 = 0 ∨ ∃ b o,s = some ⟨b,o,none⟩ ∧ WorL w b o p.1 p.2)
def dF (lo hi : Nat) (w : World) (v : Value) (p : Wg) : Prop:=mQ p ∧ ((v = .slice none 0 0 ∧ p.1 = 0) ∨ ∃ gO cap cs,v = .slice (some ⟨gO,0,none⟩) p.1 cap ∧ WgL lo hi w gO p.1 cap cs p.2)
def oU (p : Wg) (k : Int) : Wg:=(p.1,iv p.2 k)
theorem kT (f : Nat → Wt) (k : Int) : ∀ n,cx (iv f k) n = cx f n
 | 0 => rfl
 | n + 1 => by simp only [cx, kT f k n, iv, j9]
theorem qV {p : Wg} (k : Int) (h : mQ p) : mQ (oU p k) :=
 ⟨h.1,fun j hj=>by simp only [oU,iv,j9];exact h.2.1 j hj,by show cx (iv p.2 k) p.1 ≤ _;rw [kT];exact h.2.2⟩
theorem jj.below {w w' : World} {v : Value} {p : Wg} (h : jj w v p) (hb : Below w.heap.size w w') : jj w' v p:=by
 obtain ⟨h0,s,c,rfl,h|⟨b,o,rfl,h⟩⟩:=h
 · exact ⟨h0,s,c,rfl,.inl h⟩
 · exact ⟨h0,_,c,rfl,.inr ⟨b,o,rfl,h.below hb⟩⟩
theorem jj.drew {w : World} {v : Value} {p : Wg} (h : jj w v p) : jj w.drew v p:=h.below (bW w)
theorem dF.is {lo hi : Nat} {w : World} {v : Value} {p : Wg} (h : dF lo hi w v p) : jj w v p:=by
 obtain ⟨h0,⟨rfl,h⟩|⟨gO,cap,cs,rfl,h⟩⟩:=h
 · exact ⟨h0,none,0,by rw [h],.inl h⟩
 · exact ⟨h0,_,_,rfl,.inr ⟨gO,0,rfl,h.worL⟩⟩
theorem dF.below {lo hi : Nat} {w w' : World} {v : Value} {p : Wg} (h : dF lo hi w v p) (hb : Below w.heap.size w w') : dF lo hi w' v p:=by
 obtain ⟨h0,h|⟨gO,cap,cs,rfl,h⟩⟩:=h
 · exact ⟨h0,.inl h⟩
 · exact ⟨h0,.inr ⟨gO,cap,cs,rfl,h.below hb⟩⟩
theorem dF.drew {lo hi : Nat} {w : World} {v : Value} {p : Wg} (h : dF lo hi w v p) : dF lo hi w.drew v p:=h.below (bW w)
theorem dF.out {lo hi lo' hi' : Nat} {w w' : World} {v : Value} {p : Wg} (h : dF lo' hi' w v p) (hO : Outside lo hi w w') (hd : hi' ≤ lo ∨ hi ≤ lo') : dF lo' hi' w' v p:=by
 obtain ⟨h0,h|⟨gO,cap,cs,rfl,h⟩⟩:=h
 · exact ⟨h0,.inl h⟩
 · have h1:=h.glt
   have h2:=h.top
   exact ⟨h0,.inr ⟨gO,cap,cs,rfl,h.keep (fL h.row (hO.block _ h1.2 (by omega))) h.top fun v xs h=>bj.out h hO hd⟩⟩
set_option maxRecDepth 100000 in
theorem tR (s s' : Option Addr) (c c' : Nat) (w : World) : Calls Try.prog 9 #[.slice s 0 c,.slice s' 0 c'] w (Bb w true):=by
 go_enter Try.func9,Try.ntmps9
 go_wp2_with fail
 go_loopw [5] (fun i wr=>i = .int .i64 0 ∧ Below w.heap.size w wr) (fun i _=>0)
 case atStart=>exact ⟨rfl,Below.refl _ _⟩
 case round =>
  obtain ⟨rfl,hb⟩:=hrel
  go_wp2_with fail
  go_ret
  exact ⟨rfl,hb⟩
theorem hU {w : World} {u v : Value} {p : Wg} (hu : jj w u p) (hv : jj w v p) : Calls Try.prog 9 #[u,v] w (Bb w (tf (p = p))):=by
 rw [aA rfl]
 obtain ⟨h0,s,c,rfl,h⟩:=hu
 obtain ⟨_,s',c',rfl,h'⟩:=hv
 by_cases e : p.1 = 0
 · rw [e];exact tR _ _ _ _ _
 · obtain ⟨b,o,e1,hS⟩:=h.resolve_left e
   obtain ⟨b',o',e2,hS'⟩:=h'.resolve_left e
   subst e1;subst e2
   exact tQ b o p.1 c b' o' c' p.2 w h0.1 hS hS'
set_option maxRecDepth 100000 in
theorem qW (s : Option Addr) (c : Nat) (k : Int) (w : World) : Calls Try.prog 14 #[.slice s 0 c,.int .i64 k] w fun e w'=>e = .returned (.int .i64 k) ∧ w = w':=by
 go_enter Try.func14,Try.ntmps14
 go_wp2_with fail
 go_loop [1,5] (fun q i=>q = .int .i64 k ∧ i = .int .i64 0) (fun _ i=>0)
 case atStart=>exact ⟨rfl,rfl⟩
 case round =>
  obtain ⟨rfl,rfl⟩:=hrel
  go_wp2_with fail
  go_ret
  exact ⟨rfl,rfl⟩
theorem mR {lo hi : Nat} {w : World} {v : Value} {p : Wg} (h : dF lo hi w v p) (k : Int) (h0 : 0 ≤ k) (hk : k ≤ 576460752303423488) : Calls Try.prog 14 #[v,.int .i64 k] w fun e w'=>e = .returned (.int .i64 (k + cx p.2 p.1)) ∧ dF lo hi w' v (oU p k) ∧ Outside lo hi w w':=by
 obtain ⟨ho,⟨rfl,h⟩|⟨gO,cap,cs,rfl,h⟩⟩:=h
 · refine (qW none 0 k w).mono ?_
   rintro e w' ⟨rfl,rfl⟩
   exact ⟨by rw [h];simp [cx],⟨qV k ho,.inl ⟨rfl,h⟩⟩,Outside.refl _ _ _⟩
 · refine (mP h k h0 ho.1 (by have:=ho.2.2;omega) ho.2.1).mono ?_
   rintro e w' ⟨rfl,⟨cs',h'⟩,hO⟩
   exact ⟨rfl,⟨qV k ho,.inr ⟨gO,cap,cs',rfl,h'⟩⟩,hO⟩
set_option maxRecDepth 100000 in
theorem qX (s : Option Addr) (c : Nat) (k : Int) (w : World) : Calls Try.prog 15 #[.slice s 0 c,.int .i64 k] w fun e w'=>e = .returned (.int .i64 k) ∧ w = w':=by
 go_enter Try.func15,Try.ntmps15
 go_wp2_with fail
 go_loop [1,5] (fun q i=>q = .int .i64 k ∧ i = .int .i64 0) (fun _ i=>0)
 case atStart=>exact ⟨rfl,rfl⟩
 case round =>
  obtain ⟨rfl,rfl⟩:=hrel
  go_wp2_with fail
  go_ret
  exact ⟨rfl,rfl⟩
theorem jk {w : World} {v : Value} (p : Wg) (k : Int) (h : jj w v (oU p k)) (h0 : 0 ≤ k) (hk : k ≤ 576460752303423488) : Calls Try.prog 15 #[v,.int .i64 k] w (Bi w (k + cx p.2 p.1)):=by
 obtain ⟨ho,s,c,rfl,h⟩:=h
 have ho' : mQ p:=⟨ho.1,fun j hj=>by have:=ho.2.1 j hj;simp only [oU,iv,j9] at this;exact this,by have:=ho.2.2;simp only [oU,kT] at this;exact this⟩
 by_cases e : p.1 = 0
 · show Calls _ _ #[.slice s p.1 c,_] w _
   rw [e]
   refine (qX s c k w).mono ?_
   rintro e w' ⟨rfl,rfl⟩
   exact ⟨by simp [cx],Below.refl _ _⟩
 · obtain ⟨b,o,e1,hS⟩:=h.resolve_left e
   subst e1
   refine (mO b o p.1 c p.2 k w ho'.1 h0 (by have:=ho'.2.2;omega) ho'.2.1 hS).mono ?_
   rintro e w' ⟨rfl,rfl⟩
   exact ⟨rfl,Below.refl _ _⟩
def vI (w : World) (p : Wg) (e : Ending) (w' : World) : Prop:=∃ s n c,e = .returned (.slice s n c) ∧ dF w.heap.size w'.heap.size w' (.slice s n c) p ∧ Below w.heap.size w w'
def qY (w : World) (p : Wg) (e : Ending) (w' : World) : Prop:=∃ s n c,e = .returned (.slice s n c) ∧ jj w' (.slice s n c) p ∧ Below w.heap.size w w'
theorem vJ {O : Nat → Prop} {w : World} {v : Value} {n : Nat} {f : Nat → Wt} (h : Rd O w (.V 3 (cE n fun k=>wD (f k))) v) : ∃ s c,v = .slice s n c ∧ (n = 0 ∨ ∃ b o,s = some ⟨b,o,none⟩ ∧ WorL w b o n f):=by
 generalize hc : C.V 3 (cE n fun k=>wD (f k)) = c at h
 cases h with
 | sl hv hn hc' hm h0 hs cell rec =>
   subst hc
   simp only [C.view,Nat.zero_lt_succ,if_true,Option.some.injEq] at hv
   subst hv
   simp only [lN] at *
   refine ⟨_,_,rfl,?_⟩
   rename_i sa cp vs
   by_cases e : n = 0
   · exact .inl e
   · right
     cases sa with
     | none => exact absurd (h0 rfl).1 e
     | some ad =>
       obtain ⟨e1,e2,e3⟩:=hs ad rfl (by omega)
       refine ⟨ad.block,ad.off,by rw [← e1],e3,fun k hk=>?_⟩
       have r0:=rec k hk 0 (by omega)
       have r1:=rec k hk 1 (by omega)
       have r2:=rec k hk 2 (by omega)
       have c0:=cell ad rfl k hk 0 (by omega)
       have c1:=cell ad rfl k hk 1 (by omega)
       have c2:=cell ad rfl k hk 2 (by omega)
       simp only [gE hk,vE,vF,vG] at r0 r1 r2
       obtain ⟨s1,n1,d1,q1,i1⟩:=i9 r1
       rw [q1] at c1
       have q0 : vs k 0 = .int .i64 (f k).hd:=by
        revert r0
        generalize vs k 0 = u
        intro r2
        cases r2 with
        | int => rfl
        | sl hv' => simp [C.view] at hv'
       rw [q0] at c0
       have q2 : vs k 2 = .int .i64 (f k).wy:=by
        revert r2
        generalize vs k 2 = u
        intro r2
        cases r2 with
        | int => rfl
        | sl hv' => simp [C.view] at hv'
       rw [q2] at c2
       obtain rfl : n1 = (f k).ov.length:=i1.1.symm
       exact ⟨s1,_,d1,by rw [Nat.add_zero] at c0;exact c0,by rw [Nat.add_assoc];exact c1,by rw [Nat.add_assoc];exact c2,i1⟩
 | _ => cases hc
theorem oV {P : Program} {f : FuncId} {args : List AV} {w : World} {vs : List Value} (hF : ba P f args [] (fun _=>.c .nul)) (hv : AVs φ00 h00 w args vs) : Calls P f vs.toArray w fun e w'=>e = .returned (.slice none 0 0) ∧ Below w.heap.size w w':=by
 refine (hF.2 φ00 h00 w vs (fun _ _ h=>by cases h) (ox w) hv.at.1 hv.at.2).mono fun e w' ⟨v,he,ho⟩=>?_
 obtain ⟨φ',H,_,ha⟩:=ho [] rfl List.nodup_nil (fun _ h=>by cases h)
 have e1:=fx ha
 subst e1
 exact ⟨he,H.fr⟩
theorem qZ {P : Program} {f : FuncId} {args : List AV} {T : TypeId} {p : Wg} (hp : mQ p) {w : World} {vs : List Value} (hF : ba P f args [.arr T .yes (.V 3 (cE p.1 fun k=>wD (p.2 k)))] (fun ns=>.sl (ns.getD 0 0))) (hv : AVs φ00 h00 w args vs) : Calls P f vs.toArray w (qY w p):=by
 refine (hF.2 φ00 h00 w vs (fun _ _ h=>by cases h) (ox w) hv.at.1 hv.at.2).mono fun e w' ⟨v,he,ho⟩=>?_
 obtain ⟨φ',H,_,ha⟩:=ho [0] rfl (by decide) (fun _ _=>rfl)
 have l0 : bQ (aY h00 []) [0] [Ent.arr T .yes (.V 3 (cE p.1 fun k=>wD (p.2 k)))] 0 = some (.arr T .yes (.V 3 (cE p.1 fun k=>wD (p.2 k)))):=rfl
 have o0:=eq (O':=fun _=>False) (w':=w') (H.ent 0 _ l0) (fun b _ _=>⟨rfl,fun h=>h⟩) (Nat.le_refl _)
 have e1 : v = (φ' 0).val:=kN ha l0
 obtain ⟨s,c,q,hS⟩:=vJ (Rd.unn o0)
 rw [q] at e1
 subst e1
 exact ⟨s,_,c,he,⟨hp,s,c,rfl,hS⟩,H.fr⟩
end Go.Proofs.Ytlodllmpndflcaa
