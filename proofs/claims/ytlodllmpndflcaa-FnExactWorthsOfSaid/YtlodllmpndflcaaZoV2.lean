/-
  The union of two sets.
-/
import Derived.Test.YtlodllmpndflcaaZoKf
import Derived.Test.YtlodllmpndflcaaZoCb
import Derived.Test.YtlodllmpndflcaaZoAt2
import Derived.Test.YtlodllmpndflcaaZoShelf2
import Derived.Test.YtlodllmpndflcaaZoFc
import Derived.Test.YtlodllmpndflcaaZoCe
namespace Go.Proofs.Ytlodllmpndflcaa
set_option linter.unusedVariables false
set_option linter.unusedSimpArgs false
open Go.RowKit
end Go.Proofs.Ytlodllmpndflcaa
namespace Go.Proofs.Ytlodllmpndflcaa
set_option linter.unusedVariables false
set_option linter.unusedSimpArgs false
open Go.RowKit
theorem r8 {φ : Nat → Loc} {hp : Hp} {w : World} {loc : Loc} {nn : Fl} {xs : List Int} (h : e9 φ hp w loc (.arr 2 nn (.I xs))) (hh : nn.hd = true) {lo : Nat} (hlo : ∀ b,loc.blk = some b → lo ≤ b) : bj lo w.heap.size w loc.val xs :=
 nu h hh rfl rfl hlo (by simp) fun i v hi hr=>by
  have hi' : i < xs.length:=hi
  cases hr with
  | sl hv' => simp [C.view] at hv'
  | int => simp [gi, List.getD_eq_getElem?_getD, List.getElem?_eq_getElem hi']
theorem tK {φ : Nat → Loc} {hp : Hp} {w : World} {ν : Nat} {v : Value} {T : TypeId} {nn : Fl} {c : C} (h : AVC φ hp w (.sl ν) v) (he : hp ν = some (.arr T nn c)) : v = (φ ν).val:=by
 cases h with
 | sl h hk => rfl
 | sld h hk v hv => rw [he] at h; injection h with h; subst h; simp [Ent.kind] at hk
theorem qO (l : Loc) : ∃ s n c,l.val = .slice s n c:=by cases l <;> exact ⟨_,_,_,rfl⟩
theorem r9 (l : Loc) : blk l.val = l.blk:=by cases l <;> rfl
theorem qP {φ φ' : Nat → Loc} {hp hp' : Hp} {w w' : World} {loc : Loc} {nn : Fl} {xs ys : List Int} {lo hi : Nat} (old : e9 φ hp w loc (.arr 2 nn (.I xs))) (hl : ys.length = xs.length) (h : bj lo hi w' loc.val ys) : e9 φ' hp' w' loc (.arr 2 nn (.I ys)):=by
 obtain ⟨V,hv,hnn,⟨rfl,h1,h2⟩|⟨g,o,cp,cur,rfl,h1,h2,h3,h4,h5,h6⟩⟩:=old
 · simp only [C.view,Option.some.injEq] at hv
   subst hv
   exact ⟨_,rfl,rfl,.inl ⟨rfl,by rw [← h1];exact hl,h2⟩⟩
 · simp only [C.view,Option.some.injEq] at hv
   subst hv
   rcases h with ⟨e,_⟩|⟨g',cap,cur',e,k1,k2,k3,k4,k5,k6,k7⟩
   · cases e
   injection e with e1 e2 e3
   injection e1 with e1
   injection e1 with e1 e4
   subst e1 e3 e4
   rw [List.length_map] at k4 k7
   refine ⟨_,rfl,rfl,.inr ⟨g,0,cp,cur',by rw [hl],k3,k4,h3,?_,fun _=>⟨rfl,?_⟩,fun i hi j hj=>?_⟩⟩
   · show 0 + cp * 1 ≤ cur'.size
     omega
   · show cp * 1 = cur'.size
     omega
   · have hi' : i < ys.length:=hi
     have hj' : j < 1:=hj
     obtain rfl : j = 0:=by omega
     refine ⟨.int .i64 (gi ys i),?_,.int _ _⟩
     show cur'[0 + (i * 1 + 0)]? = _
     rw [show 0 + (i * 1 + 0) = i by omega]
     have e : (cur'.toList.take ys.length)[i]? = (ys.map (Value.int .i64))[i]?:=by rw [k7]
     rw [List.getElem?_take,if_pos hi',List.getElem?_map,List.getElem?_eq_getElem hi'] at e
     rw [← Array.getElem?_toList,e]
     simp [dB hi']
theorem rZ (xs : List Int) (hl : xs.length ≤ 1048576) (nn : Fl) (hh : nn.hd = true) : ja Try.prog 56 (fun ν=>[.sl (ν 0)]) [.arr 2 nn (.I xs)] [.arr 2 nn (.I (srt xs))] [] (fun _=>.any):=by
 refine ⟨⟨_,Try.func56,rfl,rfl⟩,fun φ0 hp0 ν lo w vs hX hN H hvl hv=>?_⟩
 obtain ⟨u,rfl⟩ : ∃ u,vs = [u]:=by
  match vs,hvl with
  | [u], _ => exact ⟨u, rfl⟩
 have l0 : hpL hp0 ν [Ent.arr 2 nn (.I xs)] (ν 0) = some (.arr 2 nn (.I xs)):=by rw [aj hN];rfl
 have hv0 : AVC φ0 (hpL hp0 ν [Ent.arr 2 nn (.I xs)]) w (.sl (ν 0)) u:=hv 0 (by show 0 < 1;omega)
 obtain rfl:=tK hv0 l0
 have hent:=H.ent (ν 0) _ l0
 have hlo : ∀ b,(φ0 (ν 0)).blk = some b → lo ≤ b:=fun b hb=>H.lo (ν 0) b ⟨_,l0,(by show 1 < 2;decide)⟩ hb
 have o0:=r8 hent hh hlo
 obtain ⟨sa,n,c,q0⟩:=qO (φ0 (ν 0))
 have hb0:=r9 (φ0 (ν 0))
 have hback:=fun w' (h : bj lo w.heap.size w' (φ0 (ν 0)).val (srt xs))=>qP (φ':=φ0) (hp':=upd (aY (hpL hp0 ν [Ent.arr 2 nn (.I xs)]) (b7 [])) (ν 0) (some (.arr 2 nn (.I (srt xs))))) hent (by unfold srt;rw [List.length_mergeSort]) h
 rw [q0] at o0 hb0 hback ⊢
 have hn:=o0.len
 refine (qB o0 (by omega)).mono fun e w' ⟨he,ho,hg⟩=>⟨_,he,fun νs h1 h2 h3=>?_⟩
 obtain rfl : νs = []:=List.eq_nil_of_length_eq_zero h1
 rw [hb0] at hg
 obtain ⟨k1,k2⟩:=H.write (w':=w') (fz:=[]) (e':=.arr 2 nn (.I (srt xs))) l0 rfl (by simp [Ent.kind]) (fun x hx=>by cases hx) (fun hx=>by cases hx)
  ⟨hg.os,hg.tape,hg.output,hg.size,fun k hk=>hg.block k (Nat.lt_of_lt_of_le hk H.l0) fun e=>by have:=hlo k e.symm;omega⟩ hg.size (fun b hb hne=>hg.block b hb fun e=>hne e.symm) fun _=>hback w' ho
 exact ⟨φ0,k1,k2,.any _⟩
end Go.Proofs.Ytlodllmpndflcaa
namespace Go.Proofs.Ytlodllmpndflcaa
set_option linter.unusedVariables false
set_option linter.unusedSimpArgs false
open Go.RowKit
theorem fM {p : Int → Prop} {xs : List Int} (hx : xs.Pairwise (· < ·)) : ∀ k,k ≤ xs.length → (da p xs k).Pairwise (· < ·)
 | 0, _ => List.Pairwise.nil
 | k + 1, hk => by
   by_cases h : p (gi xs k)
   · rw [dv h,List.pairwise_append]
     refine ⟨fM hx k (by omega),by simp,fun x hx' y hy=>?_⟩
     obtain ⟨j,h1,h2,_⟩:=(eG k (by omega)).1 hx'
     rw [List.mem_singleton.1 hy,← h2]
     have h3:=List.pairwise_iff_getElem.1 hx j k (by omega) (by omega) h1
     rwa [← dB (by omega : j < xs.length),← dB (by omega : k < xs.length)] at h3
   · rw [d7 h];exact fM hx k (by omega)
theorem eI {p : Int → Prop} {xs : List Int} {x : Int} : x ∈ da p xs xs.length ↔ x ∈ xs ∧ p x:=by
 rw [eG _ (Nat.le_refl _)]
 constructor
 · rintro ⟨j,h1,h2,h3⟩;exact ⟨h2 ▸ ee h1,h3⟩
 · rintro ⟨h1,h2⟩
   obtain ⟨j,h3,h4⟩:=fc h1
   exact ⟨j,h3,h4,h2⟩
end Go.Proofs.Ytlodllmpndflcaa
