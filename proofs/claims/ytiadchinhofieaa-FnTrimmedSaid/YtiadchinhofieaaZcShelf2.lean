/-
  The library's compaction, reversal, deletion on a slice of numbers that the call owns; rising lists.
-/
import Derived.Test.YtiadchinhofieaaZcCb
import Derived.Shelf.SortM.Plain
import Derived.Shelf.SortM.SortNone
import Derived.Shelf.SlicesE.Compact
import Derived.Shelf.SlicesE.Reverse
import Derived.Shelf.SlicesE.Kit
import Derived.Ground.SlgmProg
import Derived.Ground.SlgnProg
import Derived.Shelf.SlicesE.Delete
namespace Go.Proofs.Ytiadchinhofieaa
set_option linter.unusedVariables false
set_option linter.unusedSimpArgs false
open Go.RowKit Go.Sort Go.Shelf
theorem rI {lo hi : Nat} {w : World} {g n c : Nat} {xs : List Int} (h : a9 lo hi w (.slice (some ⟨g,0,none⟩) n c) xs) (ys : List Int) (hl : ys.length = n) (m : Nat) (os : Array Obj) (k : Nat) (hk : k ≤ n) :
  a9 lo hi (grow (putRow (Value.int .i64) (Sort.ahead w m) g 0 ys.toArray) os) (.slice (some ⟨g,0,none⟩) k c) (ys.take k) ∧ w.grownBy (grow (putRow (Value.int .i64) (Sort.ahead w m) g 0 ys.toArray) os) (some g):=by
 have hn:=h.len
 rcases h with ⟨h,_⟩|⟨g',cap,cur,e,h1,h1',h2,h3,h4,h5,h6⟩
 · cases h
 injection e with e1 e2 e3
 injection e1 with e1
 injection e1 with e1
 subst e1 e3
 rw [List.length_map] at h3 h6
 have hg:=(Array.getElem?_eq_some_iff.1 h2).1
 have hh : ∀ j,j < w.heap.size → (grow (putRow (Value.int .i64) (Sort.ahead w m) g 0 ys.toArray) os).heap[j]? = if j = g then some (.cells (putCells (Value.int .i64) 0 ys.toArray cur) 2 (0,0)) else w.heap[j]?:=by
  intro j hj
  show ((w.heap.modify g _) ++ os)[j]? = _
  rw [Array.getElem?_append_left (by rw [Array.size_modify];exact hj),Array.getElem?_modify]
  by_cases ej : j = g
  · subst ej
    rw [if_pos rfl,if_pos rfl,h2]
    rfl
  · rw [if_neg (fun e=>ej e.symm),if_neg ej]
 refine ⟨.inr ⟨g,c,putCells (Value.int .i64) 0 ys.toArray cur,?_,h1,h1',?_,?_,h4,?_,?_⟩,rfl,rfl,rfl,?_,?_⟩
 · rw [List.length_map,List.length_take,Nat.min_eq_left (by omega)]
 · rw [hh g hg,if_pos rfl]
 · rw [List.length_map,List.length_take];omega
 · simp [putCells,h5]
 · rw [List.length_map,List.length_take,Nat.min_eq_left (by omega)]
   apply List.ext_getElem?
   intro i
   by_cases hi : i < k
   · rw [List.getElem?_take,if_pos hi,List.getElem?_map,List.getElem?_take,if_pos hi]
     have hic : i < cur.size:=by omega
     have hiy : i < ys.length:=by omega
     simp [putCells,hic,hiy]
   · rw [List.getElem?_take,if_neg hi,List.getElem?_eq_none (by simp;omega)]
 · show w.heap.size ≤ ((w.heap.modify g _) ++ os).size
   simp
 · intro j hj hne
   rw [hh j hj,if_neg (fun e=>hne (by rw [e]))]
theorem oK {lo hi : Nat} {w : World} {g n c : Nat} {xs : List Int} (h : a9 lo hi w (.slice (some ⟨g,0,none⟩) n c) xs) : Holds (Value.int .i64) w g 0 xs.toArray:=by
 intro j hj
 have hl:=h.len
 simp only [List.size_toArray] at hj
 obtain ⟨h1,h2,_,_⟩:=h.cell (k:=j) (by omega)
 rw [Nat.zero_add]
 refine ⟨?_,h2⟩
 rw [h1]
 have : xs.toArray[j]! = gi xs j:=by rw [getElem!_pos xs.toArray j (by simpa using hj)];simp [c9 hj]
 rw [this]
end Go.Proofs.Ytiadchinhofieaa
namespace Go.Proofs.Ytiadchinhofieaa
set_option linter.unusedVariables false
set_option linter.unusedSimpArgs false
open Go.RowKit Go.Sort Go.Shelf Go.Lib
end Go.Proofs.Ytiadchinhofieaa
