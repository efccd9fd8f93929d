/-
  The library's compaction, reversal, deletion on a slice of numbers that the call owns; rising lists.
-/
import Derived.Test.YtlodllmpndflcaaZoCb
import Derived.Shelf.SortM.Plain
import Derived.Shelf.SortM.SortNone
import Derived.Shelf.SlicesE.Compact
import Derived.Shelf.SlicesE.Reverse
import Derived.Shelf.SlicesE.Kit
import Derived.Ground.SlgmProg
import Derived.Ground.SlgnProg
import Derived.Shelf.SlicesE.Delete
namespace Go.Proofs.Ytlodllmpndflcaa
set_option linter.unusedVariables false
set_option linter.unusedSimpArgs false
open Go.RowKit Go.Sort Go.Shelf
theorem rW {lo hi : Nat} {w : World} {g n c : Nat} {xs : List Int} (h : bj lo hi w (.slice (some ⟨g,0,none⟩) n c) xs) (ys : List Int) (hl : ys.length = n) (m : Nat) (os : Array Obj) (k : Nat) (hk : k ≤ n) :
  bj lo hi (grow (putRow (Value.int .i64) (Sort.ahead w m) g 0 ys.toArray) os) (.slice (some ⟨g,0,none⟩) k c) (ys.take k) ∧ w.grownBy (grow (putRow (Value.int .i64) (Sort.ahead w m) g 0 ys.toArray) os) (some g):=by
 have hn:=h.len
 rcases h with ⟨h,_⟩|⟨g',cap,cur,e,h1,h1',h2,h3,h4,h5,h6⟩
 · cases h
 injection e with e1 e2 e3
 injection e1 with e1
 injection e1 with e1
 subst e1 e3
 rw [List.length_map] at h3 h6
 have hg:=(Array.getElem?_eq_some_iff.1 h2).1
 have hh : ∀ j,j < w.heap.size → (grow (putRow (Value.int .i64) (Sort.ahead w m) g 0 ys.toArray) os).heap[j]? = if j = g then some (.cells (putCells (Value.int .i64) 0 ys.toArray cur) 2 (0,0)) else w.heap[j]?:=by
  intro j hj
  show ((w.heap.modify g _) ++ os)[j]? = _
  rw [Array.getElem?_append_left (by rw [Array.size_modify];exact hj),Array.getElem?_modify]
  by_cases ej : j = g
  · subst ej
    rw [if_pos rfl,if_pos rfl,h2]
    rfl
  · rw [if_neg (fun e=>ej e.symm),if_neg ej]
 refine ⟨.inr ⟨g,c,putCells (Value.int .i64) 0 ys.toArray cur,?_,h1,h1',?_,?_,h4,?_,?_⟩,rfl,rfl,rfl,?_,?_⟩
 · rw [List.length_map,List.length_take,Nat.min_eq_left (by omega)]
 · rw [hh g hg,if_pos rfl]
 · rw [List.length_map,List.length_take];omega
 · simp [putCells,h5]
 · rw [List.length_map,List.length_take,Nat.min_eq_left (by omega)]
   apply List.ext_getElem?
   intro i
   by_cases hi : i < k
   · rw [List.getElem?_take,if_pos hi,List.getElem?_map,List.getElem?_take,if_pos hi]
     have hic : i < cur.size:=by omega
     have hiy : i < ys.length:=by omega
     simp [putCells,hic,hiy]
   · rw [List.getElem?_take,if_neg hi,List.getElem?_eq_none (by simp;omega)]
 · show w.heap.size ≤ ((w.heap.modify g _) ++ os).size
   simp
 · intro j hj hne
   rw [hh j hj,if_neg (fun e=>hne (by rw [e]))]
theorem oN {lo hi : Nat} {w : World} {g n c : Nat} {xs : List Int} (h : bj lo hi w (.slice (some ⟨g,0,none⟩) n c) xs) : Holds (Value.int .i64) w g 0 xs.toArray:=by
 intro j hj
 have hl:=h.len
 simp only [List.size_toArray] at hj
 obtain ⟨h1,h2,_,_⟩:=h.cell (k:=j) (by omega)
 rw [Nat.zero_add]
 refine ⟨?_,h2⟩
 rw [h1]
 have : xs.toArray[j]! = gi xs j:=by rw [getElem!_pos xs.toArray j (by simpa using hj)];simp [dB hj]
 rw [this]
def srt (xs : List Int) : List Int:=xs.mergeSort fun x y=>decide (x ≤ y)
def Try.sortL_ren : Go.Shelf.Ren:=⟨fun | 5=>56 | 8=>64 | 7=>63 | 19=>76 | 20=>77 | 10=>67 | 11=>68 | 12=>69 | 13=>70 | 14=>71 | 15=>72 | 16=>73 | 17=>74 | 18=>75 | 30=>79 | 31=>80 | 32=>81 | 33=>82 | 34=>83 | 35=>84 | 40=>85|n=>n,fun | 23=>22 | 25=>2 | 3=>3 | 32=>78 | 22=>22 | 0=>0 | 44=>89 | 46=>91 | 4=>4 | 36=>81 | 35=>80 | 41=>86 | 5=>5 | 9=>9 | 53=>92 | 57=>96 | 63=>99 | 64=>100|n=>n,fun|n=>n⟩
theorem Try.sortL : Go.Proofs.SlLaysM.n5 Try.prog Try.sortL_ren:={
  mixed:=by kernel_rfl
  f5:=⟨Try.f56.name,by decide,Try.func56.trans (congrArg some (by kernel_rfl))⟩
  f7:=⟨Try.f63.name,by decide,Try.func63.trans (congrArg some (by kernel_rfl))⟩
  f8:=Try.func64.trans (congrArg some (by kernel_rfl))
  f10:=⟨Try.f67.name,by decide,Try.func67.trans (congrArg some (by kernel_rfl))⟩
  f11:=⟨Try.f68.name,by decide,Try.func68.trans (congrArg some (by kernel_rfl))⟩
  f12:=⟨Try.f69.name,by decide,Try.func69.trans (congrArg some (by kernel_rfl))⟩
  f13:=⟨Try.f70.name,by decide,Try.func70.trans (congrArg some (by kernel_rfl))⟩
  f14:=⟨Try.f71.name,by decide,Try.func71.trans (congrArg some (by kernel_rfl))⟩
  f15:=⟨Try.f72.name,by decide,Try.func72.trans (congrArg some (by kernel_rfl))⟩
  f16:=⟨Try.f73.name,by decide,Try.func73.trans (congrArg some (by kernel_rfl))⟩
  f17:=⟨Try.f74.name,by decide,Try.func74.trans (congrArg some (by kernel_rfl))⟩
  f18:=⟨Try.f75.name,by decide,Try.func75.trans (congrArg some (by kernel_rfl))⟩
  f19:=Try.func76.trans (congrArg some (by kernel_rfl))
  f20:=Try.func77.trans (congrArg some (by kernel_rfl))
  f30:=⟨Try.f79.name,by decide,Try.func79.trans (congrArg some (by kernel_rfl))⟩
  f31:=Try.func80.trans (congrArg some (by kernel_rfl))
  f32:=Try.func81.trans (congrArg some (by kernel_rfl))
  f33:=⟨Try.f82.name,by decide,Try.func82.trans (congrArg some (by kernel_rfl))⟩
  f34:=⟨Try.f83.name,by decide,Try.func83.trans (congrArg some (by kernel_rfl))⟩
  f35:=⟨Try.f84.name,by decide,Try.func84.trans (congrArg some (by kernel_rfl))⟩
  f40:=⟨Try.f85.name,by decide,Try.func85.trans (congrArg some (by kernel_rfl))⟩
  t0:=Try.underlying0
  a0:=Try.isAgg0
  z0:=Try.sizeOf0
  v0:=Try.zeroValue0
  t3:=Try.underlying3
  a3:=Try.isAgg3
  z3:=Try.sizeOf3
  v3:=Try.zeroValue3
  t4:=Try.underlying4
  a4:=Try.isAgg4
  z4:=Try.sizeOf4
  v4:=Try.zeroValue4
  t5:=Try.underlying5
  a5:=Try.isAgg5
  z5:=Try.sizeOf5
  v5:=Try.zeroValue5
  t9:=Try.underlying9
  a9:=Try.isAgg9
  z9:=Try.sizeOf9
  v9:=Try.zeroValue9
  t22:=Try.underlying22
  a22:=Try.isAgg22
  z22:=Try.sizeOf22
  v22:=Try.zeroValue22
  t23:=Try.underlying22
  a23:=Try.isAgg22
  z23:=Try.sizeOf22
  v23:=Try.zeroValue22
  t25:=Try.underlying2
  a25:=Try.isAgg2
  z25:=Try.sizeOf2
  v25:=Try.zeroValue2
  t32:=Try.underlying78
  a32:=Try.isAgg78
  z32:=Try.sizeOf78
  v32:=Try.zeroValue78
  t35:=Try.underlying80
  a35:=Try.isAgg80
  z35:=Try.sizeOf80
  v35:=Try.zeroValue80
  t36:=Try.underlying81
  a36:=Try.isAgg81
  z36:=Try.sizeOf81
  v36:=Try.zeroValue81
  t41:=Try.underlying86
  a41:=Try.isAgg86
  z41:=Try.sizeOf86
  v41:=Try.zeroValue86
  t44:=Try.underlying89
  a44:=Try.isAgg89
  z44:=Try.sizeOf89
  v44:=Try.zeroValue89
  t46:=Try.underlying91
  a46:=Try.isAgg91
  z46:=Try.sizeOf91
  v46:=Try.zeroValue91
  t53:=Try.underlying92
  a53:=Try.isAgg92
  z53:=Try.sizeOf92
  v53:=Try.zeroValue92
  t57:=Try.underlying96
  a57:=Try.isAgg96
  z57:=Try.sizeOf96
  v57:=Try.zeroValue96
  t63:=Try.underlying99
  a63:=Try.isAgg99
  z63:=Try.sizeOf99
  v63:=Try.zeroValue99
  t64:=Try.underlying100
  a64:=Try.isAgg100
  z64:=Try.sizeOf100
  v64:=Try.zeroValue100 }
theorem qB {lo hi : Nat} {w : World} {sa : Option Addr} {n c : Nat} {xs : List Int} (h : bj lo hi w (.slice sa n c) xs) (hn : n ≤ 1048576) :
  Calls Try.prog 56 #[.slice sa n c] w fun e w'=>e = .returned (.tuple #[]) ∧ bj lo hi w' (.slice sa n c) (srt xs) ∧ w.grownBy w' (blk (.slice sa n c)):=by
 have hl:=h.len
 by_cases h0 : n = 0
 · subst h0
   have hx : xs = []:=List.eq_nil_of_length_eq_zero hl
   subst hx
   have hc:=AnyM.slices_Sort_int_none Try.sortL sa c w
   change Calls Try.prog 56 _ _ _ at hc
   refine hc.mono fun e w' ⟨he,hw⟩=>⟨he,?_,?_⟩
   · rw [hw];simpa [srt] using h
   · rw [hw];exact World.grownBy.refl _ _
 · obtain ⟨g,cap,e,_,_,hg,_⟩:=h.at (k:=0) (by omega)
   injection e with e1 e2 e3
   subst e1 e3
   have hc:=AnyM.slices_Sort_int Try.sortL g 0 c xs w (oN h) hg (by omega)
   rw [hl] at hc
   change Calls Try.prog 56 _ _ _ at hc
   refine hc.mono fun e w' ⟨he,m,os,hw⟩=>⟨he,?_⟩
   have hp:=rW h (srt xs) (by unfold srt;rw [List.length_mergeSort];exact hl) m os n (Nat.le_refl _)
   rw [List.take_of_length_le (by unfold srt;rw [List.length_mergeSort];omega)] at hp
   rw [hw]
   exact hp
end Go.Proofs.Ytlodllmpndflcaa
namespace Go.Proofs.Ytlodllmpndflcaa
set_option linter.unusedVariables false
set_option linter.unusedSimpArgs false
open Go.RowKit Go.Sort Go.Shelf Go.Lib
theorem tF (xs : List Int) : (srt xs).Pairwise (· ≤ ·):=by
 have:=List.pairwise_mergeSort (le:=fun x y : Int=>decide (x ≤ y)) (fun a b c h1 h2=>by simp at *;omega) (fun a b=>by simp;omega) xs
 exact this.imp fun h=>by simpa using h
theorem rX {xs : List Int} {x : Int} : x ∈ srt xs ↔ x ∈ xs:=by unfold srt;exact List.mem_mergeSort
end Go.Proofs.Ytlodllmpndflcaa
