/-
  The library's compaction, reversal, deletion on a slice of numbers that the call owns; rising lists.
-/
import Derived.Test.YthjamlponejffaaZiCb
import Derived.Shelf.SortM.Plain
import Derived.Shelf.SortM.SortNone
import Derived.Shelf.SlicesE.Compact
import Derived.Shelf.SlicesE.Reverse
import Derived.Shelf.SlicesE.Kit
import Derived.Ground.SlgmProg
import Derived.Ground.SlgnProg
import Derived.Shelf.SlicesE.Delete
namespace Go.Proofs.Ythjamlponejffaa
set_option linter.unusedVariables false
set_option linter.unusedSimpArgs false
open Go.RowKit Go.Sort Go.Shelf
theorem nd {lo hi : Nat} {w : World} {g n c : Nat} {xs : List Int} (h : aM lo hi w (.slice (some ⟨g,0,none⟩) n c) xs) (ys : List Int) (hl : ys.length = n) (m : Nat) (os : Array Obj) (k : Nat) (hk : k ≤ n) :
  aM lo hi (grow (putRow (Value.int .i64) (Sort.ahead w m) g 0 ys.toArray) os) (.slice (some ⟨g,0,none⟩) k c) (ys.take k) ∧ w.grownBy (grow (putRow (Value.int .i64) (Sort.ahead w m) g 0 ys.toArray) os) (some g):=by
 have hn:=h.len
 rcases h with ⟨h,_⟩|⟨g',cap,cur,e,h1,h1',h2,h3,h4,h5,h6⟩
 · cases h
 injection e with e1 e2 e3
 injection e1 with e1
 injection e1 with e1
 subst e1 e3
 rw [List.length_map] at h3 h6
 have hg:=(Array.getElem?_eq_some_iff.1 h2).1
 have hh : ∀ j,j < w.heap.size → (grow (putRow (Value.int .i64) (Sort.ahead w m) g 0 ys.toArray) os).heap[j]? = if j = g then some (.cells (putCells (Value.int .i64) 0 ys.toArray cur) 2 (0,0)) else w.heap[j]?:=by
  intro j hj
  show ((w.heap.modify g _) ++ os)[j]? = _
  rw [Array.getElem?_append_left (by rw [Array.size_modify];exact hj),Array.getElem?_modify]
  by_cases ej : j = g
  · subst ej
    rw [if_pos rfl,if_pos rfl,h2]
    rfl
  · rw [if_neg (fun e=>ej e.symm),if_neg ej]
 refine ⟨.inr ⟨g,c,putCells (Value.int .i64) 0 ys.toArray cur,?_,h1,h1',?_,?_,h4,?_,?_⟩,rfl,rfl,rfl,?_,?_⟩
 · rw [List.length_map,List.length_take,Nat.min_eq_left (by omega)]
 · rw [hh g hg,if_pos rfl]
 · rw [List.length_map,List.length_take];omega
 · simp [putCells,h5]
 · rw [List.length_map,List.length_take,Nat.min_eq_left (by omega)]
   apply List.ext_getElem?
   intro i
   by_cases hi : i < k
   · rw [List.getElem?_take,if_pos hi,List.getElem?_map,List.getElem?_take,if_pos hi]
     have hic : i < cur.size:=by omega
     have hiy : i < ys.length:=by omega
     simp [putCells,hic,hiy]
   · rw [List.getElem?_take,if_neg hi,List.getElem?_eq_none (by simp;omega)]
 · show w.heap.size ≤ ((w.heap.modify g _) ++ os).size
   simp
 · intro j hj hne
   rw [hh j hj,if_neg (fun e=>hne (by rw [e]))]
theorem jJ {lo hi : Nat} {w : World} {g n c : Nat} {xs : List Int} (h : aM lo hi w (.slice (some ⟨g,0,none⟩) n c) xs) : Holds (Value.int .i64) w g 0 xs.toArray:=by
 intro j hj
 have hl:=h.len
 simp only [List.size_toArray] at hj
 obtain ⟨h1,h2,_,_⟩:=h.cell (k:=j) (by omega)
 rw [Nat.zero_add]
 refine ⟨?_,h2⟩
 rw [h1]
 have : xs.toArray[j]! = gi xs j:=by rw [getElem!_pos xs.toArray j (by simpa using hj)];simp [dR hj]
 rw [this]
def srt (xs : List Int) : List Int:=xs.mergeSort fun x y=>decide (x ≤ y)
def Try.sortL_ren : Go.Shelf.Ren:=⟨fun | 5=>125 | 8=>133 | 7=>132 | 19=>144 | 20=>145 | 10=>136 | 11=>137 | 12=>138 | 13=>139 | 14=>140 | 15=>141 | 16=>128 | 17=>142 | 18=>143 | 30=>146 | 31=>147 | 32=>148 | 33=>149 | 34=>150 | 35=>134 | 40=>151|n=>n,fun | 23=>22 | 25=>2 | 3=>3 | 32=>84 | 22=>22 | 0=>0 | 44=>139 | 46=>46 | 4=>4 | 36=>133 | 35=>132 | 41=>121 | 5=>5 | 9=>9 | 53=>141 | 57=>145 | 63=>147 | 64=>148|n=>n,fun|n=>n⟩
theorem Try.sortL : Go.Proofs.SlLaysM.n5 Try.prog Try.sortL_ren:={
  mixed:=by kernel_rfl
  f5:=⟨Try.f125.name,by decide,Try.func125.trans (congrArg some (by kernel_rfl))⟩
  f7:=⟨Try.f132.name,by decide,Try.func132.trans (congrArg some (by kernel_rfl))⟩
  f8:=Try.func133.trans (congrArg some (by kernel_rfl))
  f10:=⟨Try.f136.name,by decide,Try.func136.trans (congrArg some (by kernel_rfl))⟩
  f11:=⟨Try.f137.name,by decide,Try.func137.trans (congrArg some (by kernel_rfl))⟩
  f12:=⟨Try.f138.name,by decide,Try.func138.trans (congrArg some (by kernel_rfl))⟩
  f13:=⟨Try.f139.name,by decide,Try.func139.trans (congrArg some (by kernel_rfl))⟩
  f14:=⟨Try.f140.name,by decide,Try.func140.trans (congrArg some (by kernel_rfl))⟩
  f15:=⟨Try.f141.name,by decide,Try.func141.trans (congrArg some (by kernel_rfl))⟩
  f16:=⟨Try.f128.name,by decide,Try.func128.trans (congrArg some (by kernel_rfl))⟩
  f17:=⟨Try.f142.name,by decide,Try.func142.trans (congrArg some (by kernel_rfl))⟩
  f18:=⟨Try.f143.name,by decide,Try.func143.trans (congrArg some (by kernel_rfl))⟩
  f19:=Try.func144.trans (congrArg some (by kernel_rfl))
  f20:=Try.func145.trans (congrArg some (by kernel_rfl))
  f30:=⟨Try.f146.name,by decide,Try.func146.trans (congrArg some (by kernel_rfl))⟩
  f31:=Try.func147.trans (congrArg some (by kernel_rfl))
  f32:=Try.func148.trans (congrArg some (by kernel_rfl))
  f33:=⟨Try.f149.name,by decide,Try.func149.trans (congrArg some (by kernel_rfl))⟩
  f34:=⟨Try.f150.name,by decide,Try.func150.trans (congrArg some (by kernel_rfl))⟩
  f35:=⟨Try.f134.name,by decide,Try.func134.trans (congrArg some (by kernel_rfl))⟩
  f40:=⟨Try.f151.name,by decide,Try.func151.trans (congrArg some (by kernel_rfl))⟩
  t0:=Try.underlying0
  a0:=Try.isAgg0
  z0:=Try.sizeOf0
  v0:=Try.zeroValue0
  t3:=Try.underlying3
  a3:=Try.isAgg3
  z3:=Try.sizeOf3
  v3:=Try.zeroValue3
  t4:=Try.underlying4
  a4:=Try.isAgg4
  z4:=Try.sizeOf4
  v4:=Try.zeroValue4
  t5:=Try.underlying5
  a5:=Try.isAgg5
  z5:=Try.sizeOf5
  v5:=Try.zeroValue5
  t9:=Try.underlying9
  a9:=Try.isAgg9
  z9:=Try.sizeOf9
  v9:=Try.zeroValue9
  t22:=Try.underlying22
  a22:=Try.isAgg22
  z22:=Try.sizeOf22
  v22:=Try.zeroValue22
  t23:=Try.underlying22
  a23:=Try.isAgg22
  z23:=Try.sizeOf22
  v23:=Try.zeroValue22
  t25:=Try.underlying2
  a25:=Try.isAgg2
  z25:=Try.sizeOf2
  v25:=Try.zeroValue2
  t32:=Try.underlying84
  a32:=Try.isAgg84
  z32:=Try.sizeOf84
  v32:=Try.zeroValue84
  t35:=Try.underlying132
  a35:=Try.isAgg132
  z35:=Try.sizeOf132
  v35:=Try.zeroValue132
  t36:=Try.underlying133
  a36:=Try.isAgg133
  z36:=Try.sizeOf133
  v36:=Try.zeroValue133
  t41:=Try.underlying121
  a41:=Try.isAgg121
  z41:=Try.sizeOf121
  v41:=Try.zeroValue121
  t44:=Try.underlying139
  a44:=Try.isAgg139
  z44:=Try.sizeOf139
  v44:=Try.zeroValue139
  t46:=Try.underlying46
  a46:=Try.isAgg46
  z46:=Try.sizeOf46
  v46:=Try.zeroValue46
  t53:=Try.underlying141
  a53:=Try.isAgg141
  z53:=Try.sizeOf141
  v53:=Try.zeroValue141
  t57:=Try.underlying145
  a57:=Try.isAgg145
  z57:=Try.sizeOf145
  v57:=Try.zeroValue145
  t63:=Try.underlying147
  a63:=Try.isAgg147
  z63:=Try.sizeOf147
  v63:=Try.zeroValue147
  t64:=Try.underlying148
  a64:=Try.isAgg148
  z64:=Try.sizeOf148
  v64:=Try.zeroValue148 }
theorem pV {lo hi : Nat} {w : World} {sa : Option Addr} {n c : Nat} {xs : List Int} (h : aM lo hi w (.slice sa n c) xs) (hn : n ≤ 1048576) :
  Calls Try.prog 125 #[.slice sa n c] w fun e w'=>e = .returned (.tuple #[]) ∧ aM lo hi w' (.slice sa n c) (srt xs) ∧ w.grownBy w' (blk (.slice sa n c)):=by
 have hl:=h.len
 by_cases h0 : n = 0
 · subst h0
   have hx : xs = []:=List.eq_nil_of_length_eq_zero hl
   subst hx
   have hc:=AnyM.slices_Sort_int_none Try.sortL sa c w
   change Calls Try.prog 125 _ _ _ at hc
   refine hc.mono fun e w' ⟨he,hw⟩=>⟨he,?_,?_⟩
   · rw [hw];simpa [srt] using h
   · rw [hw];exact World.grownBy.refl _ _
 · obtain ⟨g,cap,e,_,_,hg,_⟩:=h.at (k:=0) (by omega)
   injection e with e1 e2 e3
   subst e1 e3
   have hc:=AnyM.slices_Sort_int Try.sortL g 0 c xs w (jJ h) hg (by omega)
   rw [hl] at hc
   change Calls Try.prog 125 _ _ _ at hc
   refine hc.mono fun e w' ⟨he,m,os,hw⟩=>⟨he,?_⟩
   have hp:=nd h (srt xs) (by unfold srt;rw [List.length_mergeSort];exact hl) m os n (Nat.le_refl _)
   rw [List.take_of_length_le (by unfold srt;rw [List.length_mergeSort];omega)] at hp
   rw [hw]
   exact hp
end Go.Proofs.Ythjamlponejffaa
namespace Go.Proofs.Ythjamlponejffaa
set_option linter.unusedVariables false
set_option linter.unusedSimpArgs false
open Go.RowKit Go.Sort Go.Shelf Go.Lib
theorem fw {xs : List Int} {x : Int} : x ∈ xs ↔ ∃ k,k < xs.length ∧ gi xs k = x:=⟨dS,fun ⟨k,h,e⟩=>by rw [← e];exact dz h⟩
theorem my : ∀ (xs ys : List Int),xs.Pairwise (· < ·) → ys.Pairwise (· < ·) → (∀ x,x ∈ xs ↔ x ∈ ys) → xs = ys:=by
 intro xs
 induction xs with
 | nil =>
   intro ys _ _ h
   cases ys with
   | nil => rfl
   | cons y ys => exact absurd ((h y).2 List.mem_cons_self) (by simp)
 | cons x xs ih =>
   intro ys hx hy h
   cases ys with
   | nil => exact absurd ((h x).1 List.mem_cons_self) (by simp)
   | cons y ys =>
     obtain ⟨hx1,hx2⟩:=List.pairwise_cons.1 hx
     obtain ⟨hy1,hy2⟩:=List.pairwise_cons.1 hy
     have e : x = y:=by
      have h1:=(h x).1 List.mem_cons_self
      have h2:=(h y).2 List.mem_cons_self
      rcases List.mem_cons.1 h1 with h1|h1
      · exact h1
      · rcases List.mem_cons.1 h2 with h2|h2
        · exact h2.symm
        · have:=hy1 x h1;have:=hx1 y h2;omega
     subst e
     rw [ih ys hx2 hy2 fun z=>?_]
     constructor
     · intro hz
       have h3:=hx1 z hz
       rcases List.mem_cons.1 ((h z).1 (List.mem_cons_of_mem _ hz)) with e|h4
       · omega
       · exact h4
     · intro hz
       have h3:=hy1 z hz
       rcases List.mem_cons.1 ((h z).2 (List.mem_cons_of_mem _ hz)) with e|h4
       · omega
       · exact h4
theorem qZ (p : Nat → Prop) (k : Nat) : (lst p k).Pairwise (· < ·):=by
 induction k with
 | zero => simp [lst]
 | succ k ih =>
   by_cases h : p k
   · rw [eQ h,List.pairwise_append]
     refine ⟨ih,by simp,fun x hx y hy=>?_⟩
     obtain ⟨v,h1,_,rfl⟩:=mG.1 hx
     simp at hy
     omega
   · rw [gA h];exact ih
theorem q6 {xs : List Int} {n : Nat} (h : xs.Pairwise (· < ·)) (hb : ∀ x ∈ xs,0 ≤ x ∧ x < n) : xs = lst (fun v=>(v : Int) ∈ xs) n :=
 my _ _ h (qZ _ _) fun x=>by
  rw [mG]
  constructor
  · intro hx;have:=hb x hx;exact ⟨x.toNat,by omega,by rw [Int.toNat_of_nonneg this.1];exact hx,by omega⟩
  · rintro ⟨v,_,h2,rfl⟩;exact h2
theorem si (xs : List Int) : (srt xs).Pairwise (· ≤ ·):=by
 have:=List.pairwise_mergeSort (le:=fun x y : Int=>decide (x ≤ y)) (fun a b c h1 h2=>by simp at *;omega) (fun a b=>by simp;omega) xs
 exact this.imp fun h=>by simpa using h
theorem q7 {xs : List Int} {x : Int} : x ∈ srt xs ↔ x ∈ xs:=by unfold srt;exact List.mem_mergeSort
def jK (xs : List Int) : List Int:=compactUpTo xs.toArray xs.length
theorem nZ (xs : List Int) (h : xs.Pairwise (· ≤ ·)) : ∀ m,m ≤ xs.length → (compactUpTo xs.toArray m).Pairwise (· < ·) ∧ (∀ x,x ∈ compactUpTo xs.toArray m ↔ ∃ j,j < m ∧ gi xs j = x):=by
 have hget : ∀ j,j < xs.length → xs.toArray[j]! = gi xs j:=fun j hj=>by rw [getElem!_pos xs.toArray j (by simpa using hj)];simp [dR hj]
 have hle : ∀ i j,i < j → j < xs.length → gi xs i ≤ gi xs j:=fun i j hij hj=>by
  rw [dR hj,dR (by omega)]
  exact List.pairwise_iff_getElem.1 h i j (by omega) hj hij
 intro m
 induction m with
 | zero => intro _; simp [compactUpTo]
 | succ m ih =>
   intro hm
   obtain ⟨i1,i2⟩:=ih (by omega)
   rw [compactUpTo_succ]
   by_cases hk : keeps xs.toArray m = true
   · rw [if_pos hk,hget m (by omega)]
     refine ⟨?_,fun x=>?_⟩
     · rw [List.pairwise_append]
       refine ⟨i1,by simp,fun x hx y hy=>?_⟩
       simp at hy
       subst hy
       obtain ⟨j,hj,rfl⟩:=(i2 x).1 hx
       have h1:=hle j m hj (by omega)
       unfold keeps at hk
       simp only [decide_eq_true_eq] at hk
       rcases hk with hk|hk
       · omega
       · rw [hget m (by omega),hget (m - 1) (by omega)] at hk
         have h2 : gi xs j ≤ gi xs (m - 1):=by
          by_cases e : j = m - 1
          · rw [e];omega
          · exact hle j (m - 1) (by omega) (by omega)
         have h3:=hle (m - 1) m (by omega) (by omega)
         omega
     · rw [List.mem_append,i2]
       constructor
       · rintro (⟨j,hj,e⟩|hx)
         · exact ⟨j,by omega,e⟩
         · simp at hx;exact ⟨m,by omega,hx.symm⟩
       · rintro ⟨j,hj,e⟩
         by_cases ej : j = m
         · right;rw [← e,ej];simp
         · left;exact ⟨j,by omega,e⟩
   · rw [if_neg hk,List.append_nil]
     refine ⟨i1,fun x=>?_⟩
     rw [i2]
     constructor
     · rintro ⟨j,hj,e⟩;exact ⟨j,by omega,e⟩
     · rintro ⟨j,hj,e⟩
       by_cases ej : j = m
       · unfold keeps at hk
         simp only [decide_eq_true_eq,not_or,Classical.not_not] at hk
         rw [hget m (by omega),hget (m - 1) (by omega)] at hk
         exact ⟨m - 1,by omega,by rw [← e,ej,hk.2]⟩
       · exact ⟨j,by omega,e⟩
theorem n8 {xs : List Int} {n : Nat} (hb : ∀ x ∈ xs,0 ≤ x ∧ x < n) : jK (srt xs) = lst (fun v=>(v : Int) ∈ xs) n:=by
 obtain ⟨h1,h2⟩:=nZ (srt xs) (si xs) _ (Nat.le_refl _)
 have hm : ∀ x,x ∈ jK (srt xs) ↔ x ∈ xs:=fun x=>(h2 x).trans (fw.symm.trans q7)
 exact (q6 (xs:=jK (srt xs)) (n:=n) h1 fun x hx=>hb x ((hm x).1 hx)).trans (gB fun v _=>hm v)
def Try.cmpL_ren : Go.Shelf.Ren:=⟨fun | 43=>126|n=>n,fun | 22=>22 | 23=>2 | 3=>3 | 4=>4 | 0=>0|n=>n,fun|n=>n⟩
theorem Try.cmpL : Go.Proofs.SlLaysE.n43 Try.prog Try.cmpL_ren:={
  mixed:=by kernel_rfl
  f43:=⟨Try.f126.name,by decide,Try.func126.trans (congrArg some (by kernel_rfl))⟩
  t0:=Try.underlying0
  a0:=Try.isAgg0
  z0:=Try.sizeOf0
  v0:=Try.zeroValue0
  t3:=Try.underlying3
  a3:=Try.isAgg3
  z3:=Try.sizeOf3
  v3:=Try.zeroValue3
  t4:=Try.underlying4
  a4:=Try.isAgg4
  z4:=Try.sizeOf4
  v4:=Try.zeroValue4
  t22:=Try.underlying22
  a22:=Try.isAgg22
  z22:=Try.sizeOf22
  v22:=Try.zeroValue22
  a23:=Try.isAgg2
  z23:=Try.sizeOf2 }
theorem lu {lo hi : Nat} {w : World} {sa : Option Addr} {n c : Nat} {xs : List Int} (h : aM lo hi w (.slice sa n c) xs) (hn : n ≤ 1048576) (h0 : 0 < n) :
  Calls Try.prog 126 #[.slice sa n c] w fun e w'=>∃ k,e = .returned (.slice sa k c) ∧ aM lo hi w' (.slice sa k c) (jK xs) ∧ w.grownBy w' (blk (.slice sa n c)):=by
 have hl:=h.len
 have hcap : n ≤ c:=by
  obtain ⟨_,_,_,e,hI⟩:=h.is
  injection e with _ e2 e3
  have:=hI.2.cap
  omega
 obtain ⟨g,cap,e,_,_,hg,_⟩:=h.at (k:=0) (by omega)
 injection e with e1 e2 e3
 subst e1 e3
 have hc:=AnyE.slices_Compact Try.cmpL (Value.int .i64) (fun _=>rfl) (EqlAt.intD _ _ .i64) (NeqAt.intD _ _ .i64) 0 Try.zeroValue2 g 0 c xs.toArray w (jJ h) (by simp;omega) (by simp;omega)
 rw [show xs.toArray.size = n by simpa using hl] at hc
 change Calls Try.prog 126 _ _ _ at hc
 refine hc.mono fun e w' ⟨he,q,hw⟩=>⟨_,he,?_⟩
 have hlen : (compactUpTo xs.toArray n).length ≤ n:=by
  unfold compactUpTo;rw [List.length_map];exact Nat.le_trans (List.length_filter_le _ _) (by simp)
 have hp:=nd h (compactUpTo xs.toArray n ++ List.replicate (n - (compactUpTo xs.toArray n).length) 0) (by simp;omega) q #[] (compactUpTo xs.toArray n).length hlen
 rw [grow_empty,List.take_left] at hp
 rw [hw]
 unfold jK
 rw [hl]
 exact hp
end Go.Proofs.Ythjamlponejffaa
