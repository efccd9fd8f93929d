/-
  The library's compaction, reversal, deletion on a slice of numbers that the call owns; rising lists.
-/
import Derived.Test.YtiadchinhofieaaZqCb
import Derived.Shelf.SortM.Plain
import Derived.Shelf.SortM.SortNone
import Derived.Shelf.SlicesE.Compact
import Derived.Shelf.SlicesE.Reverse
import Derived.Shelf.SlicesE.Kit
import Derived.Ground.SlgmProg
import Derived.Ground.SlgnProg
import Derived.Shelf.SlicesE.Delete
namespace Go.Proofs.Ytiadchinhofieaa
set_option linter.unusedVariables false
set_option linter.unusedSimpArgs false
open Go.RowKit Go.Sort Go.Shelf
theorem u3 {lo hi : Nat} {w : World} {g n c : Nat} {xs : List Int} (h : cO lo hi w (.slice (some ⟨g,0,none⟩) n c) xs) (ys : List Int) (hl : ys.length = n) (m : Nat) (os : Array Obj) (k : Nat) (hk : k ≤ n) :
  cO lo hi (grow (putRow (Value.int .i64) (Sort.ahead w m) g 0 ys.toArray) os) (.slice (some ⟨g,0,none⟩) k c) (ys.take k) ∧ w.grownBy (grow (putRow (Value.int .i64) (Sort.ahead w m) g 0 ys.toArray) os) (some g):=by
 have hn:=h.len
 rcases h with ⟨h,_⟩|⟨g',cap,cur,e,h1,h1',h2,h3,h4,h5,h6⟩
 · cases h
 injection e with e1 e2 e3
 injection e1 with e1
 injection e1 with e1
 subst e1 e3
 rw [List.length_map] at h3 h6
 have hg:=(Array.getElem?_eq_some_iff.1 h2).1
 have hh : ∀ j,j < w.heap.size → (grow (putRow (Value.int .i64) (Sort.ahead w m) g 0 ys.toArray) os).heap[j]? = if j = g then some (.cells (putCells (Value.int .i64) 0 ys.toArray cur) 2 (0,0)) else w.heap[j]?:=by
  intro j hj
  show ((w.heap.modify g _) ++ os)[j]? = _
  rw [Array.getElem?_append_left (by rw [Array.size_modify];exact hj),Array.getElem?_modify]
  by_cases ej : j = g
  · subst ej
    rw [if_pos rfl,if_pos rfl,h2]
    rfl
  · rw [if_neg (fun e=>ej e.symm),if_neg ej]
 refine ⟨.inr ⟨g,c,putCells (Value.int .i64) 0 ys.toArray cur,?_,h1,h1',?_,?_,h4,?_,?_⟩,rfl,rfl,rfl,?_,?_⟩
 · rw [List.length_map,List.length_take,Nat.min_eq_left (by omega)]
 · rw [hh g hg,if_pos rfl]
 · rw [List.length_map,List.length_take];omega
 · simp [putCells,h5]
 · rw [List.length_map,List.length_take,Nat.min_eq_left (by omega)]
   apply List.ext_getElem?
   intro i
   by_cases hi : i < k
   · rw [List.getElem?_take,if_pos hi,List.getElem?_map,List.getElem?_take,if_pos hi]
     have hic : i < cur.size:=by omega
     have hiy : i < ys.length:=by omega
     simp [putCells,hic,hiy]
   · rw [List.getElem?_take,if_neg hi,List.getElem?_eq_none (by simp;omega)]
 · show w.heap.size ≤ ((w.heap.modify g _) ++ os).size
   simp
 · intro j hj hne
   rw [hh j hj,if_neg (fun e=>hne (by rw [e]))]
theorem rF {lo hi : Nat} {w : World} {g n c : Nat} {xs : List Int} (h : cO lo hi w (.slice (some ⟨g,0,none⟩) n c) xs) : Holds (Value.int .i64) w g 0 xs.toArray:=by
 intro j hj
 have hl:=h.len
 simp only [List.size_toArray] at hj
 obtain ⟨h1,h2,_,_⟩:=h.cell (k:=j) (by omega)
 rw [Nat.zero_add]
 refine ⟨?_,h2⟩
 rw [h1]
 have : xs.toArray[j]! = gi xs j:=by rw [getElem!_pos xs.toArray j (by simpa using hj)];simp [eM hj]
 rw [this]
def srt (xs : List Int) : List Int:=xs.mergeSort fun x y=>decide (x ≤ y)
def Try.sortL_ren : Go.Shelf.Ren:=⟨fun | 5=>125 | 8=>146 | 7=>145 | 19=>166 | 20=>167 | 10=>157 | 11=>158 | 12=>159 | 13=>160 | 14=>161 | 15=>162 | 16=>163 | 17=>164 | 18=>165 | 30=>171 | 31=>172 | 32=>173 | 33=>174 | 34=>175 | 35=>176 | 40=>178|n=>n,fun | 23=>22 | 25=>2 | 3=>3 | 32=>106 | 22=>22 | 0=>0 | 44=>145 | 46=>45 | 4=>4 | 36=>137 | 35=>136 | 41=>142 | 5=>5 | 9=>9 | 53=>150 | 57=>154 | 63=>158 | 64=>159|n=>n,fun|n=>n⟩
theorem Try.sortL : Go.Proofs.SlLaysM.n5 Try.prog Try.sortL_ren:={
  mixed:=by kernel_rfl
  f5:=⟨Try.f125.name,by decide,Try.func125.trans (congrArg some (by kernel_rfl))⟩
  f7:=⟨Try.f145.name,by decide,Try.func145.trans (congrArg some (by kernel_rfl))⟩
  f8:=Try.func146.trans (congrArg some (by kernel_rfl))
  f10:=⟨Try.f157.name,by decide,Try.func157.trans (congrArg some (by kernel_rfl))⟩
  f11:=⟨Try.f158.name,by decide,Try.func158.trans (congrArg some (by kernel_rfl))⟩
  f12:=⟨Try.f159.name,by decide,Try.func159.trans (congrArg some (by kernel_rfl))⟩
  f13:=⟨Try.f160.name,by decide,Try.func160.trans (congrArg some (by kernel_rfl))⟩
  f14:=⟨Try.f161.name,by decide,Try.func161.trans (congrArg some (by kernel_rfl))⟩
  f15:=⟨Try.f162.name,by decide,Try.func162.trans (congrArg some (by kernel_rfl))⟩
  f16:=⟨Try.f163.name,by decide,Try.func163.trans (congrArg some (by kernel_rfl))⟩
  f17:=⟨Try.f164.name,by decide,Try.func164.trans (congrArg some (by kernel_rfl))⟩
  f18:=⟨Try.f165.name,by decide,Try.func165.trans (congrArg some (by kernel_rfl))⟩
  f19:=Try.func166.trans (congrArg some (by kernel_rfl))
  f20:=Try.func167.trans (congrArg some (by kernel_rfl))
  f30:=⟨Try.f171.name,by decide,Try.func171.trans (congrArg some (by kernel_rfl))⟩
  f31:=Try.func172.trans (congrArg some (by kernel_rfl))
  f32:=Try.func173.trans (congrArg some (by kernel_rfl))
  f33:=⟨Try.f174.name,by decide,Try.func174.trans (congrArg some (by kernel_rfl))⟩
  f34:=⟨Try.f175.name,by decide,Try.func175.trans (congrArg some (by kernel_rfl))⟩
  f35:=⟨Try.f176.name,by decide,Try.func176.trans (congrArg some (by kernel_rfl))⟩
  f40:=⟨Try.f178.name,by decide,Try.func178.trans (congrArg some (by kernel_rfl))⟩
  t0:=Try.underlying0
  a0:=Try.isAgg0
  z0:=Try.sizeOf0
  v0:=Try.zeroValue0
  t3:=Try.underlying3
  a3:=Try.isAgg3
  z3:=Try.sizeOf3
  v3:=Try.zeroValue3
  t4:=Try.underlying4
  a4:=Try.isAgg4
  z4:=Try.sizeOf4
  v4:=Try.zeroValue4
  t5:=Try.underlying5
  a5:=Try.isAgg5
  z5:=Try.sizeOf5
  v5:=Try.zeroValue5
  t9:=Try.underlying9
  a9:=Try.isAgg9
  z9:=Try.sizeOf9
  v9:=Try.zeroValue9
  t22:=Try.underlying22
  a22:=Try.isAgg22
  z22:=Try.sizeOf22
  v22:=Try.zeroValue22
  t23:=Try.underlying22
  a23:=Try.isAgg22
  z23:=Try.sizeOf22
  v23:=Try.zeroValue22
  t25:=Try.underlying2
  a25:=Try.isAgg2
  z25:=Try.sizeOf2
  v25:=Try.zeroValue2
  t32:=Try.underlying106
  a32:=Try.isAgg106
  z32:=Try.sizeOf106
  v32:=Try.zeroValue106
  t35:=Try.underlying136
  a35:=Try.isAgg136
  z35:=Try.sizeOf136
  v35:=Try.zeroValue136
  t36:=Try.underlying137
  a36:=Try.isAgg137
  z36:=Try.sizeOf137
  v36:=Try.zeroValue137
  t41:=Try.underlying142
  a41:=Try.isAgg142
  z41:=Try.sizeOf142
  v41:=Try.zeroValue142
  t44:=Try.underlying145
  a44:=Try.isAgg145
  z44:=Try.sizeOf145
  v44:=Try.zeroValue145
  t46:=Try.underlying45
  a46:=Try.isAgg45
  z46:=Try.sizeOf45
  v46:=Try.zeroValue45
  t53:=Try.underlying150
  a53:=Try.isAgg150
  z53:=Try.sizeOf150
  v53:=Try.zeroValue150
  t57:=Try.underlying154
  a57:=Try.isAgg154
  z57:=Try.sizeOf154
  v57:=Try.zeroValue154
  t63:=Try.underlying158
  a63:=Try.isAgg158
  z63:=Try.sizeOf158
  v63:=Try.zeroValue158
  t64:=Try.underlying159
  a64:=Try.isAgg159
  z64:=Try.sizeOf159
  v64:=Try.zeroValue159 }
theorem om {lo hi : Nat} {w : World} {sa : Option Addr} {n c : Nat} {xs : List Int} (h : cO lo hi w (.slice sa n c) xs) (hn : n ≤ 1048576) :
  Calls Try.prog 125 #[.slice sa n c] w fun e w'=>e = .returned (.tuple #[]) ∧ cO lo hi w' (.slice sa n c) (srt xs) ∧ w.grownBy w' (blk (.slice sa n c)):=by
 have hl:=h.len
 by_cases h0 : n = 0
 · subst h0
   have hx : xs = []:=List.eq_nil_of_length_eq_zero hl
   subst hx
   have hc:=AnyM.slices_Sort_int_none Try.sortL sa c w
   change Calls Try.prog 125 _ _ _ at hc
   refine hc.mono fun e w' ⟨he,hw⟩=>⟨he,?_,?_⟩
   · rw [hw];simpa [srt] using h
   · rw [hw];exact World.grownBy.refl _ _
 · obtain ⟨g,cap,e,_,_,hg,_⟩:=h.at (k:=0) (by omega)
   injection e with e1 e2 e3
   subst e1 e3
   have hc:=AnyM.slices_Sort_int Try.sortL g 0 c xs w (rF h) hg (by omega)
   rw [hl] at hc
   change Calls Try.prog 125 _ _ _ at hc
   refine hc.mono fun e w' ⟨he,m,os,hw⟩=>⟨he,?_⟩
   have hp:=u3 h (srt xs) (by unfold srt;rw [List.length_mergeSort];exact hl) m os n (Nat.le_refl _)
   rw [List.take_of_length_le (by unfold srt;rw [List.length_mergeSort];omega)] at hp
   rw [hw]
   exact hp
end Go.Proofs.Ytiadchinhofieaa
namespace Go.Proofs.Ytiadchinhofieaa
set_option linter.unusedVariables false
set_option linter.unusedSimpArgs false
open Go.RowKit Go.Sort Go.Shelf Go.Lib
theorem w6 (xs : List Int) : (srt xs).Pairwise (· ≤ ·):=by
 have:=List.pairwise_mergeSort (le:=fun x y : Int=>decide (x ≤ y)) (fun a b c h1 h2=>by simp at *;omega) (fun a b=>by simp;omega) xs
 exact this.imp fun h=>by simpa using h
theorem qE {xs : List Int} {x : Int} : x ∈ srt xs ↔ x ∈ xs:=by unfold srt;exact List.mem_mergeSort
end Go.Proofs.Ytiadchinhofieaa
