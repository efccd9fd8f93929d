/-
  The program's copy of a list of lists, owned row by row.
-/
import Derived.Test.YtceonklhlpkfgaaZlCb
namespace Go.Proofs.Ytceonklhlpkfgaa
set_option linter.unusedVariables false
set_option linter.unusedSimpArgs false
open Go.RowKit
attribute [local go_sem ↓] Go.wp_at_zero Go.wp_at_succ
def sn (w : World) (n : Nat) (xss : List (List Int)) (e : Ending) (w' : World) : Prop:=∃ sa c vs,e = .returned (.slice sa n c) ∧ aO w.heap.size w'.heap.size w' (.slice sa n c) xss vs ∧ Below w.heap.size w w'
theorem ma {lo hi : Nat} {w : World} {v : Value} {xss : List (List Int)} {vs : List Value} (h : aO lo hi w v xss vs) : ∀ g,g ∈ vs.filterMap blk → g < w.heap.size:=by
 intro g hg'
 obtain ⟨x,hx,e⟩:=List.mem_filterMap.1 hg'
 obtain ⟨j,hj,e2⟩:=List.getElem_of_mem hx
 have:=h.2.2.1 j (by rw [← h.1];exact hj)
 rw [List.getD_eq_getElem?_getD,List.getElem?_eq_getElem hj] at this
 simp only [Option.getD_some,e2] at this
 exact (aD.lt this g e).2.2
set_option maxHeartbeats 1000000 in
theorem kv (sa : Option Addr) (n c : Nat) (xss : List (List Int)) (w : World) (hR : Rws w sa n c xss) (hn : n ≤ 65536) (hl : ∀ k,k < n → 0 < (gr xss k).length ∧ (gr xss k).length ≤ 1048576) :
  Calls Try.prog 31 #[.slice sa n c] w (sn w n xss):=by
 have hmax:=hR.max
 have HL:=Lib.hid hR.len
 have HN:=Lib.hid hl
 clear hl
 go_enter Try.func31,Try.ntmps31
 go_wp2_with fail
 have h0:=gD w.heap.size w (Nat.le_refl _)
 have hb0 : Below w.heap.size w (w.alloc (.cells #[] 22)):=ao _ _
 generalize w.alloc (.cells #[] 22) = w1 at *
 go_loopw [3,9] (fun v i wr=>∃ (k : Nat) (sv : Option Addr) (cv : Nat) (vs : List Value),k ≤ n ∧ i = .int .i64 k ∧ v = .slice sv k cv ∧ aO w.heap.size wr.heap.size wr (.slice sv k cv) (xss.take k) vs ∧ Below w.heap.size w wr) (fun _ i _=>n - (intOf i).toNat)
 case atStart=>exact ⟨0,_,0,[],by omega,rfl,rfl,h0,hb0⟩
 case round =>
  clear h0 hb0
  obtain ⟨k,sv,cv,vs,hk,rfl,rfl,ho,hb⟩:=hrel
  by_cases hlt : k < n
  · obtain ⟨b,o,rfl,hbl,A,L,C,hc⟩:=hR.get hlt
    have hck:=(b8 hb).1 b (o + k) hbl
    obtain ⟨hc1,hc2⟩:=hc k hlt
    rw [hc1] at hck
    have hL:=HN.out k hlt
    rw [hc2.1] at hL
    have hI:=hc2.below hb
    clear hc hc1
    have hmem : ∀ g,g ∈ vs.filterMap blk → g < wr.heap.size:=ma ho
    have hle:=ho.len
    go_wp2_with (first
     | (refine me (by rfl) _ _ (by rfl) _ (by rfl) (by rfl) (hI.below (by repeat' (first | (with_reducible exact Below.refl _ _) | (with_reducible assumption) | (with_reducible apply al) | (with_reducible apply Below.alloc) | (with_reducible apply Below.drew) | (with_reducible apply ah) | (with_reducible refine Below.trans ?_ (Below.mono (by assumption) ?_)) | omega | (simp only [World.size_alloc, World.size_setCell, World.size_drew]; omega)))) hL.1 hL.2 ?_; intro s2 c2 w2 ho2 hb2; have hB2 : Below wr.heap.size wr w2 := (by repeat' (first | (with_reducible exact Below.refl _ _) | (with_reducible assumption) | (with_reducible apply al) | (with_reducible apply Below.alloc) | (with_reducible apply Below.drew) | (with_reducible apply ah) | (with_reducible refine Below.trans ?_ (Below.mono (by assumption) ?_)) | omega | (simp only [World.size_alloc, World.size_setCell, World.size_drew]; omega))); have hz2 := hB2.size)
     | (refine oS (by rfl) _ _ (by rfl) (by rfl) (aO.below (aO.below ho hB2) (ao _ _)) (su := s2) (nu := L k) (cu := c2) (row := gr xss k) (((ho2.mono (by have := hb.size; simp; omega) (Nat.le_refl _)).below (ao _ _)).top) (fun g hg hg' => by have h1 := (aD.lt ho2 g hg).1; have h2 := hmem g hg'; simp at h1; omega) _ _ (by rfl) (by simp) (by omega) (by have := hb.size; simp; omega) ?_; intro s5 c5 w5 ho5 g5; have hz5 := g5.size))
    go_roundw
    case rel =>
     have hbA : Below w.heap.size w (w2.alloc (.cells #[.slice s2 (L k) c2] 22)):=(hb.trans (hB2.mono hb.size)).alloc (by have:=hb.size;omega) _
     rw [← lH (by have:=HL.out;omega),hle] at ho5
     refine ⟨k + 1,s5,c5,_,by omega,by go_num,rfl,ho5,hbA.grown g5 (by have:=hb.size;simp;omega) fun g hg=>(aD.lt ho.2.1 g hg).1⟩
    case measure=>simp [intOf];omega
  · have e : k = n:=by omega
    subst e
    go_wp2_with fail
    go_ret
    refine ⟨sv,cv,vs,rfl,?_,hb⟩
    rw [show xss.take k = xss from List.take_of_length_le (by have:=HL.out;omega)] at ho
    exact ho.top
end Go.Proofs.Ytceonklhlpkfgaa
