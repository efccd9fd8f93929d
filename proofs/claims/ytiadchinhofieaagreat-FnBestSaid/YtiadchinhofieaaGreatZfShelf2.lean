/-
  The library's compaction, reversal, deletion on a slice of numbers that the call owns; rising lists.
-/
import Derived.Test.YtiadchinhofieaaGreatZfCb
import Derived.Shelf.SortM.Plain
import Derived.Shelf.SortM.SortNone
import Derived.Shelf.SlicesE.Compact
import Derived.Shelf.SlicesE.Reverse
import Derived.Shelf.SlicesE.Kit
import Derived.Ground.SlgmProg
import Derived.Ground.SlgnProg
import Derived.Shelf.SlicesE.Delete
namespace Go.Proofs.YtiadchinhofieaaGreat
set_option linter.unusedVariables false
set_option linter.unusedSimpArgs false
open Go.RowKit Go.Sort Go.Shelf
theorem xf {lo hi : Nat} {w : World} {g n c : Nat} {xs : List Int} (h : bQ lo hi w (.slice (some ⟨g,0,none⟩) n c) xs) (ys : List Int) (hl : ys.length = n) (m : Nat) (os : Array Obj) (k : Nat) (hk : k ≤ n) :
  bQ lo hi (grow (putRow (Value.int .i64) (Sort.ahead w m) g 0 ys.toArray) os) (.slice (some ⟨g,0,none⟩) k c) (ys.take k) ∧ w.grownBy (grow (putRow (Value.int .i64) (Sort.ahead w m) g 0 ys.toArray) os) (some g):=by
 have hn:=h.len
 rcases h with ⟨h,_⟩|⟨g',cap,cur,e,h1,h1',h2,h3,h4,h5,h6⟩
 · cases h
 injection e with e1 e2 e3
 injection e1 with e1
 injection e1 with e1
 subst e1 e3
 rw [List.length_map] at h3 h6
 have hg:=(Array.getElem?_eq_some_iff.1 h2).1
 have hh : ∀ j,j < w.heap.size → (grow (putRow (Value.int .i64) (Sort.ahead w m) g 0 ys.toArray) os).heap[j]? = if j = g then some (.cells (putCells (Value.int .i64) 0 ys.toArray cur) 2 (0,0)) else w.heap[j]?:=by
  intro j hj
  show ((w.heap.modify g _) ++ os)[j]? = _
  rw [Array.getElem?_append_left (by rw [Array.size_modify];exact hj),Array.getElem?_modify]
  by_cases ej : j = g
  · subst ej
    rw [if_pos rfl,if_pos rfl,h2]
    rfl
  · rw [if_neg (fun e=>ej e.symm),if_neg ej]
 refine ⟨.inr ⟨g,c,putCells (Value.int .i64) 0 ys.toArray cur,?_,h1,h1',?_,?_,h4,?_,?_⟩,rfl,rfl,rfl,?_,?_⟩
 · rw [List.length_map,List.length_take,Nat.min_eq_left (by omega)]
 · rw [hh g hg,if_pos rfl]
 · rw [List.length_map,List.length_take];omega
 · simp [putCells,h5]
 · rw [List.length_map,List.length_take,Nat.min_eq_left (by omega)]
   apply List.ext_getElem?
   intro i
   by_cases hi : i < k
   · rw [List.getElem?_take,if_pos hi,List.getElem?_map,List.getElem?_take,if_pos hi]
     have hic : i < cur.size:=by omega
     have hiy : i < ys.length:=by omega
     simp [putCells,hic,hiy]
   · rw [List.getElem?_take,if_neg hi,List.getElem?_eq_none (by simp;omega)]
 · show w.heap.size ≤ ((w.heap.modify g _) ++ os).size
   simp
 · intro j hj hne
   rw [hh j hj,if_neg (fun e=>hne (by rw [e]))]
theorem s5 {lo hi : Nat} {w : World} {g n c : Nat} {xs : List Int} (h : bQ lo hi w (.slice (some ⟨g,0,none⟩) n c) xs) : Holds (Value.int .i64) w g 0 xs.toArray:=by
 intro j hj
 have hl:=h.len
 simp only [List.size_toArray] at hj
 obtain ⟨h1,h2,_,_⟩:=h.cell (k:=j) (by omega)
 rw [Nat.zero_add]
 refine ⟨?_,h2⟩
 rw [h1]
 have : xs.toArray[j]! = gi xs j:=by rw [getElem!_pos xs.toArray j (by simpa using hj)];simp [dM hj]
 rw [this]
def srt (xs : List Int) : List Int:=xs.mergeSort fun x y=>decide (x ≤ y)
def Tryz.sortL_ren : Go.Shelf.Ren:=⟨fun | 5=>63 | 8=>77 | 7=>76 | 19=>93 | 20=>94 | 10=>84 | 11=>85 | 12=>86 | 13=>87 | 14=>88 | 15=>89 | 16=>90 | 17=>91 | 18=>92 | 30=>98 | 31=>99 | 32=>100 | 33=>101 | 34=>102 | 35=>103 | 40=>104|n=>n,fun | 23=>27 | 25=>2 | 3=>3 | 32=>56 | 22=>27 | 0=>0 | 44=>107 | 46=>26 | 4=>4 | 36=>99 | 35=>98 | 41=>104 | 5=>5 | 9=>9 | 53=>111 | 57=>115 | 63=>117 | 64=>118|n=>n,fun|n=>n⟩
theorem Tryz.sortL : Go.Proofs.SlLaysM.n5 Tryz.prog Tryz.sortL_ren:={
  mixed:=by kernel_rfl
  f5:=⟨Tryz.f63.name,by decide,Tryz.func63.trans (congrArg some (by kernel_rfl))⟩
  f7:=⟨Tryz.f76.name,by decide,Tryz.func76.trans (congrArg some (by kernel_rfl))⟩
  f8:=Tryz.func77.trans (congrArg some (by kernel_rfl))
  f10:=⟨Tryz.f84.name,by decide,Tryz.func84.trans (congrArg some (by kernel_rfl))⟩
  f11:=⟨Tryz.f85.name,by decide,Tryz.func85.trans (congrArg some (by kernel_rfl))⟩
  f12:=⟨Tryz.f86.name,by decide,Tryz.func86.trans (congrArg some (by kernel_rfl))⟩
  f13:=⟨Tryz.f87.name,by decide,Tryz.func87.trans (congrArg some (by kernel_rfl))⟩
  f14:=⟨Tryz.f88.name,by decide,Tryz.func88.trans (congrArg some (by kernel_rfl))⟩
  f15:=⟨Tryz.f89.name,by decide,Tryz.func89.trans (congrArg some (by kernel_rfl))⟩
  f16:=⟨Tryz.f90.name,by decide,Tryz.func90.trans (congrArg some (by kernel_rfl))⟩
  f17:=⟨Tryz.f91.name,by decide,Tryz.func91.trans (congrArg some (by kernel_rfl))⟩
  f18:=⟨Tryz.f92.name,by decide,Tryz.func92.trans (congrArg some (by kernel_rfl))⟩
  f19:=Tryz.func93.trans (congrArg some (by kernel_rfl))
  f20:=Tryz.func94.trans (congrArg some (by kernel_rfl))
  f30:=⟨Tryz.f98.name,by decide,Tryz.func98.trans (congrArg some (by kernel_rfl))⟩
  f31:=Tryz.func99.trans (congrArg some (by kernel_rfl))
  f32:=Tryz.func100.trans (congrArg some (by kernel_rfl))
  f33:=⟨Tryz.f101.name,by decide,Tryz.func101.trans (congrArg some (by kernel_rfl))⟩
  f34:=⟨Tryz.f102.name,by decide,Tryz.func102.trans (congrArg some (by kernel_rfl))⟩
  f35:=⟨Tryz.f103.name,by decide,Tryz.func103.trans (congrArg some (by kernel_rfl))⟩
  f40:=⟨Tryz.f104.name,by decide,Tryz.func104.trans (congrArg some (by kernel_rfl))⟩
  t0:=Tryz.underlying0
  a0:=Tryz.isAgg0
  z0:=Tryz.sizeOf0
  v0:=Tryz.zeroValue0
  t3:=Tryz.underlying3
  a3:=Tryz.isAgg3
  z3:=Tryz.sizeOf3
  v3:=Tryz.zeroValue3
  t4:=Tryz.underlying4
  a4:=Tryz.isAgg4
  z4:=Tryz.sizeOf4
  v4:=Tryz.zeroValue4
  t5:=Tryz.underlying5
  a5:=Tryz.isAgg5
  z5:=Tryz.sizeOf5
  v5:=Tryz.zeroValue5
  t9:=Tryz.underlying9
  a9:=Tryz.isAgg9
  z9:=Tryz.sizeOf9
  v9:=Tryz.zeroValue9
  t22:=Tryz.underlying27
  a22:=Tryz.isAgg27
  z22:=Tryz.sizeOf27
  v22:=Tryz.zeroValue27
  t23:=Tryz.underlying27
  a23:=Tryz.isAgg27
  z23:=Tryz.sizeOf27
  v23:=Tryz.zeroValue27
  t25:=Tryz.underlying2
  a25:=Tryz.isAgg2
  z25:=Tryz.sizeOf2
  v25:=Tryz.zeroValue2
  t32:=Tryz.underlying56
  a32:=Tryz.isAgg56
  z32:=Tryz.sizeOf56
  v32:=Tryz.zeroValue56
  t35:=Tryz.underlying98
  a35:=Tryz.isAgg98
  z35:=Tryz.sizeOf98
  v35:=Tryz.zeroValue98
  t36:=Tryz.underlying99
  a36:=Tryz.isAgg99
  z36:=Tryz.sizeOf99
  v36:=Tryz.zeroValue99
  t41:=Tryz.underlying104
  a41:=Tryz.isAgg104
  z41:=Tryz.sizeOf104
  v41:=Tryz.zeroValue104
  t44:=Tryz.underlying107
  a44:=Tryz.isAgg107
  z44:=Tryz.sizeOf107
  v44:=Tryz.zeroValue107
  t46:=Tryz.underlying26
  a46:=Tryz.isAgg26
  z46:=Tryz.sizeOf26
  v46:=Tryz.zeroValue26
  t53:=Tryz.underlying111
  a53:=Tryz.isAgg111
  z53:=Tryz.sizeOf111
  v53:=Tryz.zeroValue111
  t57:=Tryz.underlying115
  a57:=Tryz.isAgg115
  z57:=Tryz.sizeOf115
  v57:=Tryz.zeroValue115
  t63:=Tryz.underlying117
  a63:=Tryz.isAgg117
  z63:=Tryz.sizeOf117
  v63:=Tryz.zeroValue117
  t64:=Tryz.underlying118
  a64:=Tryz.isAgg118
  z64:=Tryz.sizeOf118
  v64:=Tryz.zeroValue118 }
theorem pI {lo hi : Nat} {w : World} {sa : Option Addr} {n c : Nat} {xs : List Int} (h : bQ lo hi w (.slice sa n c) xs) (hn : n ≤ 1048576) :
  Calls Tryz.prog 63 #[.slice sa n c] w fun e w'=>e = .returned (.tuple #[]) ∧ bQ lo hi w' (.slice sa n c) (srt xs) ∧ w.grownBy w' (blk (.slice sa n c)):=by
 have hl:=h.len
 by_cases h0 : n = 0
 · subst h0
   have hx : xs = []:=List.eq_nil_of_length_eq_zero hl
   subst hx
   have hc:=AnyM.slices_Sort_int_none Tryz.sortL sa c w
   change Calls Tryz.prog 63 _ _ _ at hc
   refine hc.mono fun e w' ⟨he,hw⟩=>⟨he,?_,?_⟩
   · rw [hw];simpa [srt] using h
   · rw [hw];exact World.grownBy.refl _ _
 · obtain ⟨g,cap,e,_,_,hg,_⟩:=h.at (k:=0) (by omega)
   injection e with e1 e2 e3
   subst e1 e3
   have hc:=AnyM.slices_Sort_int Tryz.sortL g 0 c xs w (s5 h) hg (by omega)
   rw [hl] at hc
   change Calls Tryz.prog 63 _ _ _ at hc
   refine hc.mono fun e w' ⟨he,m,os,hw⟩=>⟨he,?_⟩
   have hp:=xf h (srt xs) (by unfold srt;rw [List.length_mergeSort];exact hl) m os n (Nat.le_refl _)
   rw [List.take_of_length_le (by unfold srt;rw [List.length_mergeSort];omega)] at hp
   rw [hw]
   exact hp
end Go.Proofs.YtiadchinhofieaaGreat
namespace Go.Proofs.YtiadchinhofieaaGreat
set_option linter.unusedVariables false
set_option linter.unusedSimpArgs false
open Go.RowKit Go.Sort Go.Shelf Go.Lib
theorem yS (xs : List Int) : (srt xs).Pairwise (· ≤ ·):=by
 have:=List.pairwise_mergeSort (le:=fun x y : Int=>decide (x ≤ y)) (fun a b c h1 h2=>by simp at *;omega) (fun a b=>by simp;omega) xs
 exact this.imp fun h=>by simpa using h
theorem rW {xs : List Int} {x : Int} : x ∈ srt xs ↔ x ∈ xs:=by unfold srt;exact List.mem_mergeSort
end Go.Proofs.YtiadchinhofieaaGreat
