/-
  The library's compaction, reversal, deletion on a slice of numbers that the call owns; rising lists.
-/
import Derived.Test.YtfaefmabjjndeaaZnCb
import Derived.Shelf.SortM.Plain
import Derived.Shelf.SortM.SortNone
import Derived.Shelf.SlicesE.Compact
import Derived.Shelf.SlicesE.Reverse
import Derived.Shelf.SlicesE.Kit
import Derived.Ground.SlgmProg
import Derived.Ground.SlgnProg
import Derived.Shelf.SlicesE.Delete
namespace Go.Proofs.Ytfaefmabjjndeaa
set_option linter.unusedVariables false
set_option linter.unusedSimpArgs false
open Go.RowKit Go.Sort Go.Shelf
theorem sC {lo hi : Nat} {w : World} {g n c : Nat} {xs : List Int} (h : ch lo hi w (.slice (some ⟨g,0,none⟩) n c) xs) (ys : List Int) (hl : ys.length = n) (m : Nat) (os : Array Obj) (k : Nat) (hk : k ≤ n) :
  ch lo hi (grow (putRow (Value.int .i64) (Sort.ahead w m) g 0 ys.toArray) os) (.slice (some ⟨g,0,none⟩) k c) (ys.take k) ∧ w.grownBy (grow (putRow (Value.int .i64) (Sort.ahead w m) g 0 ys.toArray) os) (some g):=by
 have hn:=h.len
 rcases h with ⟨h,_⟩|⟨g',cap,cur,e,h1,h1',h2,h3,h4,h5,h6⟩
 · cases h
 injection e with e1 e2 e3
 injection e1 with e1
 injection e1 with e1
 subst e1 e3
 rw [List.length_map] at h3 h6
 have hg:=(Array.getElem?_eq_some_iff.1 h2).1
 have hh : ∀ j,j < w.heap.size → (grow (putRow (Value.int .i64) (Sort.ahead w m) g 0 ys.toArray) os).heap[j]? = if j = g then some (.cells (putCells (Value.int .i64) 0 ys.toArray cur) 2 (0,0)) else w.heap[j]?:=by
  intro j hj
  show ((w.heap.modify g _) ++ os)[j]? = _
  rw [Array.getElem?_append_left (by rw [Array.size_modify];exact hj),Array.getElem?_modify]
  by_cases ej : j = g
  · subst ej
    rw [if_pos rfl,if_pos rfl,h2]
    rfl
  · rw [if_neg (fun e=>ej e.symm),if_neg ej]
 refine ⟨.inr ⟨g,c,putCells (Value.int .i64) 0 ys.toArray cur,?_,h1,h1',?_,?_,h4,?_,?_⟩,rfl,rfl,rfl,?_,?_⟩
 · rw [List.length_map,List.length_take,Nat.min_eq_left (by omega)]
 · rw [hh g hg,if_pos rfl]
 · rw [List.length_map,List.length_take];omega
 · simp [putCells,h5]
 · rw [List.length_map,List.length_take,Nat.min_eq_left (by omega)]
   apply List.ext_getElem?
   intro i
   by_cases hi : i < k
   · rw [List.getElem?_take,if_pos hi,List.getElem?_map,List.getElem?_take,if_pos hi]
     have hic : i < cur.size:=by omega
     have hiy : i < ys.length:=by omega
     simp [putCells,hic,hiy]
   · rw [List.getElem?_take,if_neg hi,List.getElem?_eq_none (by simp;omega)]
 · show w.heap.size ≤ ((w.heap.modify g _) ++ os).size
   simp
 · intro j hj hne
   rw [hh j hj,if_neg (fun e=>hne (by rw [e]))]
theorem pb {lo hi : Nat} {w : World} {g n c : Nat} {xs : List Int} (h : ch lo hi w (.slice (some ⟨g,0,none⟩) n c) xs) : Holds (Value.int .i64) w g 0 xs.toArray:=by
 intro j hj
 have hl:=h.len
 simp only [List.size_toArray] at hj
 obtain ⟨h1,h2,_,_⟩:=h.cell (k:=j) (by omega)
 rw [Nat.zero_add]
 refine ⟨?_,h2⟩
 rw [h1]
 have : xs.toArray[j]! = gi xs j:=by rw [getElem!_pos xs.toArray j (by simpa using hj)];simp [dB hj]
 rw [this]
def srt (xs : List Int) : List Int:=xs.mergeSort fun x y=>decide (x ≤ y)
def Try.sortL_ren : Go.Shelf.Ren:=⟨fun | 5=>161 | 8=>205 | 7=>204 | 19=>231 | 20=>232 | 10=>223 | 11=>224 | 12=>225 | 13=>226 | 14=>227 | 15=>228 | 16=>212 | 17=>229 | 18=>230 | 30=>234 | 31=>235 | 32=>236 | 33=>237 | 34=>238 | 35=>210 | 40=>239|n=>n,fun | 23=>27 | 25=>2 | 3=>3 | 32=>103 | 22=>27 | 0=>0 | 44=>180 | 46=>26 | 4=>4 | 36=>174 | 35=>173 | 41=>136 | 5=>5 | 9=>9 | 53=>184 | 57=>188 | 63=>190 | 64=>191|n=>n,fun|n=>n⟩
theorem Try.sortL : Go.Proofs.SlLaysM.n5 Try.prog Try.sortL_ren:={
  mixed:=by kernel_rfl
  f5:=⟨Try.f161.name,by decide,Try.func161.trans (congrArg some (by kernel_rfl))⟩
  f7:=⟨Try.f204.name,by decide,Try.func204.trans (congrArg some (by kernel_rfl))⟩
  f8:=Try.func205.trans (congrArg some (by kernel_rfl))
  f10:=⟨Try.f223.name,by decide,Try.func223.trans (congrArg some (by kernel_rfl))⟩
  f11:=⟨Try.f224.name,by decide,Try.func224.trans (congrArg some (by kernel_rfl))⟩
  f12:=⟨Try.f225.name,by decide,Try.func225.trans (congrArg some (by kernel_rfl))⟩
  f13:=⟨Try.f226.name,by decide,Try.func226.trans (congrArg some (by kernel_rfl))⟩
  f14:=⟨Try.f227.name,by decide,Try.func227.trans (congrArg some (by kernel_rfl))⟩
  f15:=⟨Try.f228.name,by decide,Try.func228.trans (congrArg some (by kernel_rfl))⟩
  f16:=⟨Try.f212.name,by decide,Try.func212.trans (congrArg some (by kernel_rfl))⟩
  f17:=⟨Try.f229.name,by decide,Try.func229.trans (congrArg some (by kernel_rfl))⟩
  f18:=⟨Try.f230.name,by decide,Try.func230.trans (congrArg some (by kernel_rfl))⟩
  f19:=Try.func231.trans (congrArg some (by kernel_rfl))
  f20:=Try.func232.trans (congrArg some (by kernel_rfl))
  f30:=⟨Try.f234.name,by decide,Try.func234.trans (congrArg some (by kernel_rfl))⟩
  f31:=Try.func235.trans (congrArg some (by kernel_rfl))
  f32:=Try.func236.trans (congrArg some (by kernel_rfl))
  f33:=⟨Try.f237.name,by decide,Try.func237.trans (congrArg some (by kernel_rfl))⟩
  f34:=⟨Try.f238.name,by decide,Try.func238.trans (congrArg some (by kernel_rfl))⟩
  f35:=⟨Try.f210.name,by decide,Try.func210.trans (congrArg some (by kernel_rfl))⟩
  f40:=⟨Try.f239.name,by decide,Try.func239.trans (congrArg some (by kernel_rfl))⟩
  t0:=Try.underlying0
  a0:=Try.isAgg0
  z0:=Try.sizeOf0
  v0:=Try.zeroValue0
  t3:=Try.underlying3
  a3:=Try.isAgg3
  z3:=Try.sizeOf3
  v3:=Try.zeroValue3
  t4:=Try.underlying4
  a4:=Try.isAgg4
  z4:=Try.sizeOf4
  v4:=Try.zeroValue4
  t5:=Try.underlying5
  a5:=Try.isAgg5
  z5:=Try.sizeOf5
  v5:=Try.zeroValue5
  t9:=Try.underlying9
  a9:=Try.isAgg9
  z9:=Try.sizeOf9
  v9:=Try.zeroValue9
  t22:=Try.underlying27
  a22:=Try.isAgg27
  z22:=Try.sizeOf27
  v22:=Try.zeroValue27
  t23:=Try.underlying27
  a23:=Try.isAgg27
  z23:=Try.sizeOf27
  v23:=Try.zeroValue27
  t25:=Try.underlying2
  a25:=Try.isAgg2
  z25:=Try.sizeOf2
  v25:=Try.zeroValue2
  t32:=Try.underlying103
  a32:=Try.isAgg103
  z32:=Try.sizeOf103
  v32:=Try.zeroValue103
  t35:=Try.underlying173
  a35:=Try.isAgg173
  z35:=Try.sizeOf173
  v35:=Try.zeroValue173
  t36:=Try.underlying174
  a36:=Try.isAgg174
  z36:=Try.sizeOf174
  v36:=Try.zeroValue174
  t41:=Try.underlying136
  a41:=Try.isAgg136
  z41:=Try.sizeOf136
  v41:=Try.zeroValue136
  t44:=Try.underlying180
  a44:=Try.isAgg180
  z44:=Try.sizeOf180
  v44:=Try.zeroValue180
  t46:=Try.underlying26
  a46:=Try.isAgg26
  z46:=Try.sizeOf26
  v46:=Try.zeroValue26
  t53:=Try.underlying184
  a53:=Try.isAgg184
  z53:=Try.sizeOf184
  v53:=Try.zeroValue184
  t57:=Try.underlying188
  a57:=Try.isAgg188
  z57:=Try.sizeOf188
  v57:=Try.zeroValue188
  t63:=Try.underlying190
  a63:=Try.isAgg190
  z63:=Try.sizeOf190
  v63:=Try.zeroValue190
  t64:=Try.underlying191
  a64:=Try.isAgg191
  z64:=Try.sizeOf191
  v64:=Try.zeroValue191 }
theorem qO {lo hi : Nat} {w : World} {sa : Option Addr} {n c : Nat} {xs : List Int} (h : ch lo hi w (.slice sa n c) xs) (hn : n ≤ 1048576) :
  Calls Try.prog 161 #[.slice sa n c] w fun e w'=>e = .returned (.tuple #[]) ∧ ch lo hi w' (.slice sa n c) (srt xs) ∧ w.grownBy w' (blk (.slice sa n c)):=by
 have hl:=h.len
 by_cases h0 : n = 0
 · subst h0
   have hx : xs = []:=List.eq_nil_of_length_eq_zero hl
   subst hx
   have hc:=AnyM.slices_Sort_int_none Try.sortL sa c w
   change Calls Try.prog 161 _ _ _ at hc
   refine hc.mono fun e w' ⟨he,hw⟩=>⟨he,?_,?_⟩
   · rw [hw];simpa [srt] using h
   · rw [hw];exact World.grownBy.refl _ _
 · obtain ⟨g,cap,e,_,_,hg,_⟩:=h.at (k:=0) (by omega)
   injection e with e1 e2 e3
   subst e1 e3
   have hc:=AnyM.slices_Sort_int Try.sortL g 0 c xs w (pb h) hg (by omega)
   rw [hl] at hc
   change Calls Try.prog 161 _ _ _ at hc
   refine hc.mono fun e w' ⟨he,m,os,hw⟩=>⟨he,?_⟩
   have hp:=sC h (srt xs) (by unfold srt;rw [List.length_mergeSort];exact hl) m os n (Nat.le_refl _)
   rw [List.take_of_length_le (by unfold srt;rw [List.length_mergeSort];omega)] at hp
   rw [hw]
   exact hp
end Go.Proofs.Ytfaefmabjjndeaa
namespace Go.Proofs.Ytfaefmabjjndeaa
set_option linter.unusedVariables false
set_option linter.unusedSimpArgs false
open Go.RowKit Go.Sort Go.Shelf Go.Lib
theorem mj {xs : List Int} {x : Int} : x ∈ xs ↔ ∃ k,k < xs.length ∧ gi xs k = x:=⟨c4,fun ⟨k,h,e⟩=>by rw [← e];exact du h⟩
theorem nC : ∀ (xs ys : List Int),xs.Pairwise (· < ·) → ys.Pairwise (· < ·) → (∀ x,x ∈ xs ↔ x ∈ ys) → xs = ys:=by
 intro xs
 induction xs with
 | nil =>
   intro ys _ _ h
   cases ys with
   | nil => rfl
   | cons y ys => exact absurd ((h y).2 List.mem_cons_self) (by simp)
 | cons x xs ih =>
   intro ys hx hy h
   cases ys with
   | nil => exact absurd ((h x).1 List.mem_cons_self) (by simp)
   | cons y ys =>
     obtain ⟨hx1,hx2⟩:=List.pairwise_cons.1 hx
     obtain ⟨hy1,hy2⟩:=List.pairwise_cons.1 hy
     have e : x = y:=by
      have h1:=(h x).1 List.mem_cons_self
      have h2:=(h y).2 List.mem_cons_self
      rcases List.mem_cons.1 h1 with h1|h1
      · exact h1
      · rcases List.mem_cons.1 h2 with h2|h2
        · exact h2.symm
        · have:=hy1 x h1;have:=hx1 y h2;omega
     subst e
     rw [ih ys hx2 hy2 fun z=>?_]
     constructor
     · intro hz
       have h3:=hx1 z hz
       rcases List.mem_cons.1 ((h z).1 (List.mem_cons_of_mem _ hz)) with e|h4
       · omega
       · exact h4
     · intro hz
       have h3:=hy1 z hz
       rcases List.mem_cons.1 ((h z).2 (List.mem_cons_of_mem _ hz)) with e|h4
       · omega
       · exact h4
theorem un (xs : List Int) : (srt xs).Pairwise (· ≤ ·):=by
 have:=List.pairwise_mergeSort (le:=fun x y : Int=>decide (x ≤ y)) (fun a b c h1 h2=>by simp at *;omega) (fun a b=>by simp;omega) xs
 exact this.imp fun h=>by simpa using h
theorem sD {xs : List Int} {x : Int} : x ∈ srt xs ↔ x ∈ xs:=by unfold srt;exact List.mem_mergeSort
end Go.Proofs.Ytfaefmabjjndeaa
