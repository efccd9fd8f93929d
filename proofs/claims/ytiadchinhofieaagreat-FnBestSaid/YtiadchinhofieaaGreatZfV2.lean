/-
  The union of two sets.
-/
import Derived.Test.YtiadchinhofieaaGreatZfKf
import Derived.Test.YtiadchinhofieaaGreatZfCb
import Derived.Test.YtiadchinhofieaaGreatZfAt2
import Derived.Test.YtiadchinhofieaaGreatZfShelf2
import Derived.Test.YtiadchinhofieaaGreatZfFc
import Derived.Test.YtiadchinhofieaaGreatZfCe
namespace Go.Proofs.YtiadchinhofieaaGreat
set_option linter.unusedVariables false
set_option linter.unusedSimpArgs false
open Go.RowKit
end Go.Proofs.YtiadchinhofieaaGreat
namespace Go.Proofs.YtiadchinhofieaaGreat
set_option linter.unusedVariables false
set_option linter.unusedSimpArgs false
open Go.RowKit
theorem xj {φ : Nat → Loc} {hp : Hp} {w : World} {loc : Loc} {nn : Fl} {xs : List Int} (h : g0 φ hp w loc (.arr 2 nn (.I xs))) (hh : nn.hd = true) {lo : Nat} (hlo : ∀ b,loc.blk = some b → lo ≤ b) : bQ lo w.heap.size w loc.val xs :=
 wI h hh rfl rfl hlo (by simp) fun i v hi hr=>by
  have hi' : i < xs.length:=hi
  cases hr with
  | sl hv' => simp [C.view] at hv'
  | int => simp [gi, List.getD_eq_getElem?_getD, List.getElem?_eq_getElem hi']
theorem yW {φ : Nat → Loc} {hp : Hp} {w : World} {ν : Nat} {v : Value} {T : TypeId} {nn : Fl} {c : C} (h : AVC φ hp w (.sl ν) v) (he : hp ν = some (.arr T nn c)) : v = (φ ν).val:=by
 cases h with
 | sl h hk => rfl
 | sld h hk v hv => rw [he] at h; injection h with h; subst h; simp [Ent.kind] at hk
theorem vH (l : Loc) : ∃ s n c,l.val = .slice s n c:=by cases l <;> exact ⟨_,_,_,rfl⟩
theorem xk (l : Loc) : blk l.val = l.blk:=by cases l <;> rfl
theorem vI {φ φ' : Nat → Loc} {hp hp' : Hp} {w w' : World} {loc : Loc} {nn : Fl} {xs ys : List Int} {lo hi : Nat} (old : g0 φ hp w loc (.arr 2 nn (.I xs))) (hl : ys.length = xs.length) (h : bQ lo hi w' loc.val ys) : g0 φ' hp' w' loc (.arr 2 nn (.I ys)):=by
 obtain ⟨V,hv,hnn,⟨rfl,h1,h2⟩|⟨g,o,cp,cur,rfl,h1,h2,h3,h4,h5,h6⟩⟩:=old
 · simp only [C.view,Option.some.injEq] at hv
   subst hv
   exact ⟨_,rfl,rfl,.inl ⟨rfl,by rw [← h1];exact hl,h2⟩⟩
 · simp only [C.view,Option.some.injEq] at hv
   subst hv
   rcases h with ⟨e,_⟩|⟨g',cap,cur',e,k1,k2,k3,k4,k5,k6,k7⟩
   · cases e
   injection e with e1 e2 e3
   injection e1 with e1
   injection e1 with e1 e4
   subst e1 e3 e4
   rw [List.length_map] at k4 k7
   refine ⟨_,rfl,rfl,.inr ⟨g,0,cp,cur',by rw [hl],k3,k4,h3,?_,fun _=>⟨rfl,?_⟩,fun i hi j hj=>?_⟩⟩
   · show 0 + cp * 1 ≤ cur'.size
     omega
   · show cp * 1 = cur'.size
     omega
   · have hi' : i < ys.length:=hi
     have hj' : j < 1:=hj
     obtain rfl : j = 0:=by omega
     refine ⟨.int .i64 (gi ys i),?_,.int _ _⟩
     show cur'[0 + (i * 1 + 0)]? = _
     rw [show 0 + (i * 1 + 0) = i by omega]
     have e : (cur'.toList.take ys.length)[i]? = (ys.map (Value.int .i64))[i]?:=by rw [k7]
     rw [List.getElem?_take,if_pos hi',List.getElem?_map,List.getElem?_eq_getElem hi'] at e
     rw [← Array.getElem?_toList,e]
     simp [dM hi']
theorem xi (xs : List Int) (hl : xs.length ≤ 1048576) (nn : Fl) (hh : nn.hd = true) : dx Tryz.prog 63 (fun ν=>[.sl (ν 0)]) [.arr 2 nn (.I xs)] [.arr 2 nn (.I (srt xs))] [] (fun _=>.any):=by
 refine ⟨⟨_,Tryz.func63,rfl,rfl⟩,fun φ0 hp0 ν lo w vs hX hN H hvl hv=>?_⟩
 obtain ⟨u,rfl⟩ : ∃ u,vs = [u]:=by
  match vs,hvl with
  | [u], _ => exact ⟨u, rfl⟩
 have l0 : hpL hp0 ν [Ent.arr 2 nn (.I xs)] (ν 0) = some (.arr 2 nn (.I xs)):=by rw [aj hN];rfl
 have hv0 : AVC φ0 (hpL hp0 ν [Ent.arr 2 nn (.I xs)]) w (.sl (ν 0)) u:=hv 0 (by show 0 < 1;omega)
 obtain rfl:=yW hv0 l0
 have hent:=H.ent (ν 0) _ l0
 have hlo : ∀ b,(φ0 (ν 0)).blk = some b → lo ≤ b:=fun b hb=>H.lo (ν 0) b ⟨_,l0,(by show 1 < 2;decide)⟩ hb
 have o0:=xj hent hh hlo
 obtain ⟨sa,n,c,q0⟩:=vH (φ0 (ν 0))
 have hb0:=xk (φ0 (ν 0))
 have hback:=fun w' (h : bQ lo w.heap.size w' (φ0 (ν 0)).val (srt xs))=>vI (φ':=φ0) (hp':=upd (aZ (hpL hp0 ν [Ent.arr 2 nn (.I xs)]) (cA [])) (ν 0) (some (.arr 2 nn (.I (srt xs))))) hent (by unfold srt;rw [List.length_mergeSort]) h
 rw [q0] at o0 hb0 hback ⊢
 have hn:=o0.len
 refine (pI o0 (by omega)).mono fun e w' ⟨he,ho,hg⟩=>⟨_,he,fun νs h1 h2 h3=>?_⟩
 obtain rfl : νs = []:=List.eq_nil_of_length_eq_zero h1
 rw [hb0] at hg
 obtain ⟨k1,k2⟩:=H.write (w':=w') (fz:=[]) (e':=.arr 2 nn (.I (srt xs))) l0 rfl (by simp [Ent.kind]) (fun x hx=>by cases hx) (fun hx=>by cases hx)
  ⟨hg.os,hg.tape,hg.output,hg.size,fun k hk=>hg.block k (Nat.lt_of_lt_of_le hk H.l0) fun e=>by have:=hlo k e.symm;omega⟩ hg.size (fun b hb hne=>hg.block b hb fun e=>hne e.symm) fun _=>hback w' ho
 exact ⟨φ0,k1,k2,.any _⟩
theorem vF : aO Tryz.prog 63 [.c .nul] [] (fun _=>.any):=by
 refine ⟨⟨_,Tryz.func63,rfl,rfl⟩,fun φ0 hp0 w vs hX H hl hv=>?_⟩
 match vs,hl with
 | [u], _ =>
   have hv0 : AVC φ0 hp0 w (.c .nul) u:=hv 0 (by show 0 < 1;omega)
   obtain rfl:=iA hv0
   refine (pI (lo:=w.heap.size) (hi:=w.heap.size) (w:=w) (sa:=none) (n:=0) (c:=0) (xs:=[]) (oh _ _ _ _) (by omega)).mono fun e w' ⟨he,_,hg⟩=>⟨_,he,fun ν n1 n2 n3=>?_⟩
   have : ν = []:=List.eq_nil_of_length_eq_zero n1
   subst this
   have hbw : Below w.heap.size w w':=⟨hg.os,hg.tape,hg.output,hg.size,fun k hk=>hg.block k hk (by simp [blk,Value.ownBlock])⟩
   have hE : Evo φ0 hp0 w φ0 (b7 (aZ hp0 []) [] []) w':=⟨fun ν e he=>⟨e,he,.inr ⟨rfl,rfl⟩⟩,fun b hb ho=>⟨hbw.block b hb,ho⟩,hbw.size,fun b hb _=>hbw.block b hb⟩
   refine ⟨φ0,⟨hbw,hbw.size,H.fin,fun ν e he=>?_,H.sep,fun ν b hm hb'=>H.lo ν b hm hb'⟩,hE,.any _⟩
   exact (H.ent ν e he).evo hE fun hk b hb'=>hbw.block b (H.lt ⟨e,he,hk⟩ hb')
theorem vG {P : Program} {f : FuncId} {args : List AV} {T : TypeId} {c : C} {V : View} (hv : c.view = some V) (hl : 0 < V.len) {val : List Nat → AV} (h : aO P f args [.arr T .may c] val) : aO P f args [.arr T .yes c] val:=by
 refine ⟨h.1,fun φ0 hp0 w vs hX H hl' ha=>(h.2 φ0 hp0 w vs hX H hl' ha).mono fun e w' ⟨v,he,hO⟩=>⟨v,he,fun ν n1 n2 n3=>?_⟩⟩
 obtain ⟨φ',K,E,hr⟩:=hO ν n1 n2 n3
 match ν,n1 with
 | [x], _ =>
   change HC φ' (upd hp0 x (some (.arr T .may c))) _ _ _ at K
   change Evo φ0 hp0 w φ' (upd hp0 x (some (.arr T .may c))) w' at E
   change AVC φ' (upd hp0 x (some (.arr T .may c))) w' (val [x]) v at hr
   show ∃ φ',HC φ' (upd hp0 x (some (.arr T .yes c))) _ _ _ ∧ Evo φ0 hp0 w φ' (upd hp0 x (some (.arr T .yes c))) w' ∧ AVC φ' (upd hp0 x (some (.arr T .yes c))) w' (val [x]) v
   have u1 : ∀ e : Ent,upd hp0 x (some e) x = some e:=fun e=>bD hp0 x (some e)
   have u2 : ∀ (e : Ent) y,y ≠ x → upd hp0 x (some e) y = hp0 y:=fun e y h=>cy h
   have kd : ∀ y e,upd hp0 x (some (.arr T .yes c)) y = some e → ∃ e',upd hp0 x (some (.arr T .may c)) y = some e' ∧ e'.kind = e.kind ∧ (y ≠ x → e' = e):=fun y e h=>by
    by_cases hy : y = x
    · subst hy;rw [u1] at h;injection h with h;subst h;exact ⟨_,u1 _,rfl,fun h=>absurd rfl h⟩
    · rw [u2 _ _ hy] at h;exact ⟨e,by rw [u2 _ _ hy];exact h,rfl,fun _=>rfl⟩
   have kd' : ∀ y e,upd hp0 x (some (.arr T .may c)) y = some e → ∃ e',upd hp0 x (some (.arr T .yes c)) y = some e' ∧ e'.kind = e.kind:=fun y e h=>by
    by_cases hy : y = x
    · subst hy;rw [u1] at h;injection h with h;subst h;exact ⟨_,u1 _,rfl⟩
    · rw [u2 _ _ hy] at h;exact ⟨e,by rw [u2 _ _ hy];exact h,rfl⟩
   have lv : ∀ y,cE (upd hp0 x (some (.arr T .yes c))) y → cE (upd hp0 x (some (.arr T .may c))) y:=fun y ⟨e,h1,h2⟩=>let ⟨e',k1,k2,_⟩:=kd y e h1;⟨e',k1,by omega⟩
   have E1 : Evo φ' (upd hp0 x (some (.arr T .may c))) w' φ' (upd hp0 x (some (.arr T .yes c))) w':=⟨fun y e h=>let ⟨e',k1,k2⟩:=kd' y e h;⟨e',k1,.inr ⟨k2,rfl⟩⟩,fun b _ ho=>⟨rfl,fun ⟨y,y1,y2⟩=>ho ⟨y,lv y y1,y2⟩⟩,Nat.le_refl _,fun _ _ _=>rfl⟩
   refine ⟨φ',⟨K.fr,K.l0,?_,fun y e he=>?_,fun y y' b hne h1 h2=>K.sep y y' b hne (lv y h1) (lv y' h2),fun y b h1 h2=>?_⟩,E.trans E1,hr.evo E1⟩
   · obtain ⟨b,hb⟩:=K.fin
     refine ⟨b,fun y hy=>?_⟩
     have:=hb y hy
     by_cases hyx : y = x
     · subst hyx;rw [u1] at this;cases this
     · rw [u2 _ _ hyx] at this ⊢;exact this
   · obtain ⟨e',k1,k2,k3⟩:=kd y e he
     have h1:=(K.ent y e' k1).evo E1 fun _ _ _=>rfl
     by_cases hyx : y = x
     · subst hyx
       rw [u1] at he k1
       injection he with he
       injection k1 with k1
       subst he k1
       obtain ⟨V',hv',hnn,⟨q1,q2,q3⟩|q⟩:=h1
       · rw [hv] at hv';injection hv' with hv';subst hv';omega
       · exact ⟨V',hv',hnn,.inr q⟩
     · rw [← k3 hyx];exact h1
   · obtain ⟨e,k1,k2⟩:=h1
     obtain ⟨e',m1,m2,_⟩:=kd y e k1
     exact K.lo y b ⟨e',m1,by omega⟩ h2
end Go.Proofs.YtiadchinhofieaaGreat
namespace Go.Proofs.YtiadchinhofieaaGreat
set_option linter.unusedVariables false
set_option linter.unusedSimpArgs false
open Go.RowKit
theorem iM {p : Int → Prop} {xs : List Int} (hx : xs.Pairwise (· < ·)) : ∀ k,k ≤ xs.length → (dO p xs k).Pairwise (· < ·)
 | 0, _ => List.Pairwise.nil
 | k + 1, hk => by
   by_cases h : p (gi xs k)
   · rw [eH h,List.pairwise_append]
     refine ⟨iM hx k (by omega),by simp,fun x hx' y hy=>?_⟩
     obtain ⟨j,h1,h2,_⟩:=(fi k (by omega)).1 hx'
     rw [List.mem_singleton.1 hy,← h2]
     have h3:=List.pairwise_iff_getElem.1 hx j k (by omega) (by omega) h1
     rwa [← dM (by omega : j < xs.length),← dM (by omega : k < xs.length)] at h3
   · rw [fR h];exact iM hx k (by omega)
theorem gA {p : Int → Prop} {xs : List Int} {x : Int} : x ∈ dO p xs xs.length ↔ x ∈ xs ∧ p x:=by
 rw [fi _ (Nat.le_refl _)]
 constructor
 · rintro ⟨j,h1,h2,h3⟩;exact ⟨h2 ▸ cD h1,h3⟩
 · rintro ⟨h1,h2⟩
   obtain ⟨j,h3,h4⟩:=cR h1
   exact ⟨j,h3,h4,h2⟩
end Go.Proofs.YtiadchinhofieaaGreat
