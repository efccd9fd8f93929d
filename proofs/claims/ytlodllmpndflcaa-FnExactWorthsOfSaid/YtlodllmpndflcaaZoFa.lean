/-
  Plain data, abstract values, and the operations on them.
-/
import Derived.Test.YtlodllmpndflcaaZoCa
import Derived.ArgAppend
import Derived.Deep.MidRow
import Derived.Laws.OwnMore
import Derived.Laws.Tables
import Derived.Orders
import Derived.Great.BuildSlice
namespace Go.Proofs.Ytlodllmpndflcaa
set_option linter.unusedVariables false
set_option linter.unusedSimpArgs false
open Go.RowKit
inductive C where
 | int (k : IntKind) (n : Int)
 | bool (b : Bool)
 | I (xs : List Int)
 | B (xs : List Bool)
 | Y (xs : List Int)
 | R (xss : List (List Int))
 | V (wd : Nat) (es : List (List C))
 | nn (c : C)
 | nul
structure View where
 len : Nat
 wd : Nat
 at' : Nat → Nat → C
def C.view : C → Option View
 | .I xs => some ⟨xs.length, 1, fun i _ => .int .i64 (gi xs i)⟩
 | .B xs => some ⟨xs.length, 1, fun i _ => .bool (gb xs i)⟩
 | .Y xs => some ⟨xs.length, 1, fun i _ => .int .u8 (gi xs i)⟩
 | .R xss => some ⟨xss.length, 1, fun i _ => .I (gr xss i)⟩
 | .V wd es => if 0 < wd then some ⟨es.length, wd, fun i j => (es.getD i []).getD j .nul⟩ else none
 | .nn c => c.view
 | _ => none
def C.isNN : C → Bool
 | .nn _ => true
 | _ => false
theorem C.view_wd {c : C} {V : View} (h : c.view = some V) : 0 < V.wd:=by
 induction c using C.rec (motive_2:=fun _=>True) (motive_3:=fun _=>True) generalizing V
 case V wd es _ =>
  simp only [C.view] at h
  split at h
  · injection h with h;subst h;assumption
  · cases h
 case nn c ih=>exact ih h
 all_goals first|trivial|(simp only [C.view,Option.some.injEq,reduceCtorEq] at h;subst h;exact Nat.one_pos)|(simp only [C.view,reduceCtorEq] at h)
inductive Rd (O : Nat → Prop) (w : World) : C → Value → Prop where
 | int (k : IntKind) (n : Int) : Rd O w (.int k n) (.int k n)
 | bool (b : Bool) : Rd O w (.bool b) (.bool b)
 | nul : Rd O w .nul (.slice none 0 0)
 | sl {c : C} {V : View} {sa : Option Addr} {cp : Nat} {vs : Nat → Nat → Value} (hv : c.view = some V) (hn : c.isNN = true → sa ≠ none)
    (hc : V.len ≤ cp) (hm : cp ≤ 9223372036854775807) (h0 : sa = none → V.len = 0 ∧ cp = 0)
    (hs : ∀ ad,sa = some ad → 0 < V.len → ad.spot = none ∧ ¬ O ad.block ∧ ad.block < w.heap.size)
    (cell : ∀ ad,sa = some ad → ∀ i,i < V.len → ∀ j,j < V.wd → w.cell? ⟨ad.block,ad.off + (i * V.wd + j),none⟩ = some (vs i j))
    (rec : ∀ i,i < V.len → ∀ j,j < V.wd → Rd O w (V.at' i j) (vs i j)) : Rd O w c (.slice sa V.len cp)
theorem World.cell_same {w w' : World} {b o : Nat} (h : w'.heap[b]? = w.heap[b]?) : w'.cell? ⟨b,o,none⟩ = w.cell? ⟨b,o,none⟩:=by
 unfold World.cell?;simp only [h]
theorem Rd.mono {O O' : Nat → Prop} {w w' : World} {c : C} {v : Value} (h : Rd O w c v) (hb : ∀ b,b < w.heap.size → ¬ O b → w'.heap[b]? = w.heap[b]? ∧ ¬ O' b) (hz : w.heap.size ≤ w'.heap.size) : Rd O' w' c v:=by
 induction h with
 | int k n => exact .int k n
 | bool b => exact .bool b
 | nul => exact .nul
 | sl hv hn hc hm h0 hs cell rec ih =>
   refine .sl hv hn hc hm h0 (fun ad e hl=>?_) (fun ad e i hi j hj=>?_) (fun i hi j hj=>ih i hi j hj)
   · obtain ⟨h1,h2,h3⟩:=hs ad e hl
     exact ⟨h1,(hb _ h3 h2).2,Nat.lt_of_lt_of_le h3 hz⟩
   · obtain ⟨h1,h2,h3⟩:=hs ad e (by omega)
     rw [World.cell_same (hb _ h3 h2).1]
     exact cell ad e i hi j hj
theorem Rd.free {O : Nat → Prop} {w : World} {c : C} {v : Value} (h : Rd O w c v) : Rd (fun _=>False) w c v :=
 h.mono (fun b _ _=>⟨rfl,fun h=>h⟩) (Nat.le_refl _)
theorem Rd.one {O : Nat → Prop} {w : World} {c : C} {v : Value} (h : Rd O w c v) : v.oneCell' = true:=by
 cases h <;> rfl
theorem Rd.unn {O : Nat → Prop} {w : World} {c : C} {v : Value} (h : Rd O w (.nn c) v) : Rd O w c v:=by
 cases h with
 | sl hv hn hc hm h0 hs cell rec =>
   exact .sl hv (fun _=>hn rfl) hc hm h0 hs cell rec
inductive Loc where
 | nil
 | at (g o n cp wd : Nat)
def Loc.val : Loc → Value
 | .nil => .slice none 0 0
 | .at g o n cp _ => .slice (some ⟨g, o, none⟩) n cp
theorem Loc.val_one (l : Loc) : l.val.oneCell' = true:=by cases l <;> rfl
def Loc.blk : Loc → Option Nat
 | .nil => none
 | .at g _ _ _ _ => some g
inductive AV where
 | any
 | c (c : C)
 | k (v : Value)
 | sl (ν : Nat)
 | ad (ν off : Nat)
 | ea (ν i j : Nat)
 | el (wd : Nat) (f : Nat → C)
 | agg (l : List AV)
 | tup (l : List AV)
 | fn (f : Fn) (l : List AV)
structure Fl where
 nn : Bool
 hd : Bool
abbrev Fl.yes : Fl:=⟨true,true⟩
abbrev Fl.may : Fl:=⟨false,true⟩
inductive Ent where
 | box (l : List AV)
 | arr (T : TypeId) (nn : Fl) (c : C)
 | dead
 | ext
abbrev Hp:=Nat → Option Ent
def Ent.kind : Ent → Nat
 | .box _ => 0
 | .arr _ _ _ => 1
 | .dead => 2
 | .ext => 3
def cf (hp : Hp) (ν : Nat) : Prop:=∃ e,hp ν = some e ∧ e.kind ≠ 2
def jq (hp : Hp) (ν : Nat) : Prop:=∃ e,hp ν = some e ∧ e.kind < 2
theorem jq.live {hp : Hp} {ν : Nat} (h : jq hp ν) : cf hp ν:=let ⟨e,h1,h2⟩:=h;⟨e,h1,by omega⟩
def Own (φ : Nat → Loc) (hp : Hp) (b : Nat) : Prop:=∃ ν,cf hp ν ∧ (φ ν).blk = some b
inductive AVC (φ : Nat → Loc) (hp : Hp) (w : World) : AV → Value → Prop where
 | any (v : Value) : AVC φ hp w .any v
 | c {c : C} {v : Value} (h : Rd (Own φ hp) w c v) : AVC φ hp w (.c c) v
 | k (v : Value) : AVC φ hp w (.k v) v
 | sl {ν : Nat} {e : Ent} (h : hp ν = some e) (hk : e.kind = 1) : AVC φ hp w (.sl ν) (φ ν).val
 | sld {ν : Nat} {e : Ent} (h : hp ν = some e) (hk : e.kind = 2) (v : Value) (hv : v.oneCell' = true) : AVC φ hp w (.sl ν) v
 | ad {ν off g n cp wd : Nat} {e : Ent} (h : hp ν = some e) (hk : e.kind = 0) (hl : φ ν = .at g 0 n cp wd) : AVC φ hp w (.ad ν off) (.pointer (some ⟨g, off, none⟩))
 | add {ν off : Nat} {e : Ent} (h : hp ν = some e) (hk : e.kind = 2) (v : Value) (hv : v.oneCell' = true) : AVC φ hp w (.ad ν off) v
 | ea {ν i j g o n cp wd : Nat} {e : Ent} (h : hp ν = some e) (hk : e.kind = 1) (hl : φ ν = .at g o n cp wd) : AVC φ hp w (.ea ν i j) (.pointer (some ⟨g, o + (i * wd + j), none⟩))
 | ead {ν i j : Nat} {e : Ent} (h : hp ν = some e) (hk : e.kind = 2) (v : Value) (hv : v.oneCell' = true) : AVC φ hp w (.ea ν i j) v
 | el {wd : Nat} {f : Nat → C} {b o : Nat} {vs : Nat → Value} (hc : ∀ j, j < wd → w.cell? ⟨b, o + j, none⟩ = some (vs j)) (hr : ∀ j, j < wd → Rd (Own φ hp) w (f j) (vs j)) (hO : ¬ Own φ hp b) (hb : b < w.heap.size) :
    AVC φ hp w (.el wd f) (.pointer (some ⟨b,o,none⟩))
 | agg {l : List AV} {vs : List Value} (hl : vs.length = l.length) (h : ∀ i, i < l.length → AVC φ hp w (l.getD i .any) (vs.getD i undef)) : AVC φ hp w (.agg l) (.agg vs.toArray)
 | tup {l : List AV} {vs : List Value} (hl : vs.length = l.length) (h : ∀ i, i < l.length → AVC φ hp w (l.getD i .any) (vs.getD i undef)) : AVC φ hp w (.tup l) (.tuple vs.toArray)
 | fn {f : Fn} {l : List AV} {vs : List Value} (hl : vs.length = l.length) (h : ∀ i, i < l.length → AVC φ hp w (l.getD i .any) (vs.getD i undef)) : AVC φ hp w (.fn f l) (.func f #[] vs.toArray)
def vO (φ : Nat → Loc) (hp : Hp) (b : Nat) : Prop:=∃ ν,hp ν = some .ext ∧ (φ ν).blk = some b
theorem pr {e : Ent} (h : e.kind = 3) : e = .ext:=by cases e <;> first|rfl|(simp [Ent.kind] at h)
structure Evo (φ : Nat → Loc) (hp : Hp) (w : World) (φ' : Nat → Loc) (hp' : Hp) (w' : World) : Prop where
 nm : ∀ ν e,hp ν = some e → ∃ e',hp' ν = some e' ∧ ((e'.kind = 2 ∧ e.kind ≠ 3) ∨ (e'.kind = e.kind ∧ φ' ν = φ ν))
 bl : ∀ b,b < w.heap.size → ¬ Own φ hp b → w'.heap[b]? = w.heap[b]? ∧ ¬ Own φ' hp' b
 sz : w.heap.size ≤ w'.heap.size
 ex : ∀ b,b < w.heap.size → vO φ hp b → w'.heap[b]? = w.heap[b]?
theorem AVC.evo {φ φ' : Nat → Loc} {hp hp' : Hp} {w w' : World} {a : AV} {v : Value} (h : AVC φ hp w a v) (E : Evo φ hp w φ' hp' w') : AVC φ' hp' w' a v:=by
 induction h with
 | any v => exact .any v
 | c h => exact .c (h.mono E.bl E.sz)
 | k v => exact .k v
 | @sl ν e h hk =>
   obtain ⟨e',h1,⟨h2,_⟩|⟨h2,h3⟩⟩:=E.nm ν e h
   · exact .sld h1 h2 _ (Loc.val_one _)
   · rw [← h3];exact .sl h1 (h2.trans hk)
 | @sld ν e h hk v hv =>
   obtain ⟨e',h1,⟨h2,_⟩|⟨h2,h3⟩⟩:=E.nm ν e h
   · exact .sld h1 h2 _ hv
   · exact .sld h1 (h2.trans hk) _ hv
 | @ad ν off g n cp wd e h hk hl =>
   obtain ⟨e',h1,⟨h2,_⟩|⟨h2,h3⟩⟩:=E.nm ν e h
   · exact .add h1 h2 _ rfl
   · exact .ad h1 (h2.trans hk) (h3.trans hl)
 | @add ν off e h hk v hv =>
   obtain ⟨e',h1,⟨h2,_⟩|⟨h2,h3⟩⟩:=E.nm ν e h
   · exact .add h1 h2 _ hv
   · exact .add h1 (h2.trans hk) _ hv
 | @ea ν i j g o n cp wd e h hk hl =>
   obtain ⟨e',h1,⟨h2,_⟩|⟨h2,h3⟩⟩:=E.nm ν e h
   · exact .ead h1 h2 _ rfl
   · exact .ea h1 (h2.trans hk) (h3.trans hl)
 | @ead ν i j e h hk v hv =>
   obtain ⟨e',h1,⟨h2,_⟩|⟨h2,h3⟩⟩:=E.nm ν e h
   · exact .ead h1 h2 _ hv
   · exact .ead h1 (h2.trans hk) _ hv
 | el hc hr hO hb =>
   obtain ⟨h1,h2⟩:=E.bl _ hb hO
   exact .el (fun j hj=>by rw [World.cell_same h1];exact hc j hj) (fun j hj=>(hr j hj).mono E.bl E.sz) h2 (Nat.lt_of_lt_of_le hb E.sz)
 | agg hl _ ih => exact .agg hl ih
 | tup hl _ ih => exact .tup hl ih
 | fn hl _ ih => exact .fn hl ih
theorem Evo.trans {φ φ' φ2 : Nat → Loc} {hp hp' hp2 : Hp} {w w' w2 : World} (h : Evo φ hp w φ' hp' w') (k : Evo φ' hp' w' φ2 hp2 w2) : Evo φ hp w φ2 hp2 w2:=by
 refine ⟨fun ν e he=>?_,fun b hb ho=>?_,Nat.le_trans h.sz k.sz,fun b hb hs=>?_⟩
 · obtain ⟨e',h1,h2⟩:=h.nm ν e he
   obtain ⟨e2,h3,h4⟩:=k.nm ν e' h1
   refine ⟨e2,h3,?_⟩
   rcases h2 with ⟨a1,a2⟩|⟨a1,a2⟩ <;> rcases h4 with ⟨b1,b2⟩|⟨b1,b2⟩
   · exact .inl ⟨b1,a2⟩
   · exact .inl ⟨by omega,a2⟩
   · exact .inl ⟨b1,by omega⟩
   · exact .inr ⟨by omega,b2.trans a2⟩
 · obtain ⟨h1,h2⟩:=h.bl b hb ho
   obtain ⟨h3,h4⟩:=k.bl b (Nat.lt_of_lt_of_le hb h.sz) h2
   exact ⟨h3.trans h1,h4⟩
 · have h1:=h.ex b hb hs
   obtain ⟨ν,h2,h3⟩:=hs
   obtain ⟨e',h4,⟨_,h5⟩|⟨h5,h6⟩⟩:=h.nm ν _ h2
   · exact absurd rfl h5
   · exact (k.ex b (Nat.lt_of_lt_of_le hb h.sz) ⟨ν,by rw [h4,pr h5],by rw [h6];exact h3⟩).trans h1
theorem Evo.refl (φ : Nat → Loc) (hp : Hp) (w : World) : Evo φ hp w φ hp w :=
 ⟨fun ν e h=>⟨e,h,.inr ⟨rfl,rfl⟩⟩,fun b _ h=>⟨rfl,h⟩,Nat.le_refl _,fun _ _ _=>rfl⟩
def e9 (φ : Nat → Loc) (hp : Hp) (w : World) (loc : Loc) : Ent → Prop
 | .box l => ∃ g n cp wd cur T, loc = .at g 0 n cp wd ∧ w.heap[g]? = some (.cells cur T (0, 0)) ∧ cur.size = l.length ∧ ∀ i, i < l.length → AVC φ hp w (l.getD i .any) (cur.getD i undef)
 | .arr T nn c => ∃ V, c.view = some V ∧ c.isNN = false ∧ ((loc = .nil ∧ V.len = 0 ∧ nn.nn = false) ∨
    ∃ g o cp cur,loc = .at g o V.len cp V.wd ∧ w.heap[g]? = some (.cells cur T (0,0)) ∧ V.len ≤ cp ∧ cp ≤ 9223372036854775807 ∧ o + cp * V.wd ≤ cur.size ∧ (nn.hd = true → o = 0 ∧ cp * V.wd = cur.size) ∧
     ∀ i,i < V.len → ∀ j,j < V.wd → ∃ v,cur[o + (i * V.wd + j)]? = some v ∧ Rd (Own φ hp) w (V.at' i j) v)
 | .dead => True
 | .ext => ∀ b, loc.blk = some b → b < w.heap.size
theorem e9.evo {φ φ' : Nat → Loc} {hp hp' : Hp} {w w' : World} {loc : Loc} {e : Ent} (h : e9 φ hp w loc e) (E : Evo φ hp w φ' hp' w') (hb : e.kind ≠ 2 → ∀ b,loc.blk = some b → w'.heap[b]? = w.heap[b]?) : e9 φ' hp' w' loc e:=by
 cases e with
 | dead => trivial
 | ext => exact fun b h1 => Nat.lt_of_lt_of_le (h b h1) E.sz
 | box l =>
   obtain ⟨g,n,cp,wd,cur,T,rfl,h1,h2,h3⟩:=h
   exact ⟨g,n,cp,wd,cur,T,rfl,by rw [hb (by simp [Ent.kind]) g rfl];exact h1,h2,fun i hi=>(h3 i hi).evo E⟩
 | arr T nn c =>
   obtain ⟨V,hv,hnn,h|⟨g,o,cp,cur,rfl,h1,h2,h3,h4,hh,h5⟩⟩:=h
   · exact ⟨V,hv,hnn,.inl h⟩
   · refine ⟨V,hv,hnn,.inr ⟨g,o,cp,cur,rfl,by rw [hb (by simp [Ent.kind]) g rfl];exact h1,h2,h3,h4,hh,fun i hi j hj=>?_⟩⟩
     obtain ⟨v,h6,h7⟩:=h5 i hi j hj
     exact ⟨v,h6,h7.mono E.bl E.sz⟩
structure HC (φ : Nat → Loc) (hp : Hp) (lo : Nat) (w0 w : World) : Prop where
 fr : Below lo w0 w
 l0 : lo ≤ w.heap.size
 fin : ∃ b,∀ ν,b ≤ ν → hp ν = none
 ent : ∀ ν e,hp ν = some e → e9 φ hp w (φ ν) e
 sep : ∀ ν ν' b,ν ≠ ν' → cf hp ν → cf hp ν' → (φ ν).blk = some b → (φ ν').blk ≠ some b
 lo : ∀ ν b,jq hp ν → (φ ν).blk = some b → lo ≤ b
theorem HC.lt {φ : Nat → Loc} {hp : Hp} {lo : Nat} {w0 w : World} (h : HC φ hp lo w0 w) {ν b : Nat} (hl : cf hp ν) (hb : (φ ν).blk = some b) : b < w.heap.size:=by
 obtain ⟨e,he,hk⟩:=hl
 have:=h.ent ν e he
 cases e with
 | dead => exact absurd rfl hk
 | ext => exact this b hb
 | box l =>
   obtain ⟨g,n,cp,wd,cur,T,h0,h1,_⟩:=this
   rw [h0] at hb
   simp only [Loc.blk,Option.some.injEq] at hb
   subst hb
   exact (Array.getElem?_eq_some_iff.1 h1).1
 | arr T nn c =>
   obtain ⟨V,hv,_,⟨h0,_⟩|⟨g,o,cp,cur,h0,h1,_⟩⟩:=this
   · rw [h0] at hb;cases hb
   · rw [h0] at hb
     simp only [Loc.blk,Option.some.injEq] at hb
     subst hb
     exact (Array.getElem?_eq_some_iff.1 h1).1
theorem HC.step {φ φ' : Nat → Loc} {hp hp' : Hp} {lo : Nat} {w0 w w' : World} (h : HC φ hp lo w0 w) (hb : Below lo w0 w') (E : Evo φ hp w φ' hp' w') (A : Nat → Prop)
  (fin : ∃ b,∀ ν,b ≤ ν → hp' ν = none) (hun : ∀ ν,¬ A ν → hp' ν = hp ν ∧ φ' ν = φ ν)
  (hbl : ∀ ν,¬ A ν → cf hp ν → ∀ b,(φ ν).blk = some b → w'.heap[b]? = w.heap[b]?)
  (haff : ∀ ν,A ν → ∀ e,hp' ν = some e → e9 φ' hp' w' (φ' ν) e)
  (hlo : ∀ ν,A ν → jq hp' ν → ∀ b,(φ' ν).blk = some b → lo ≤ b)
  (hsep : ∀ ν ν',A ν → ν ≠ ν' → cf hp' ν → cf hp' ν' → ∀ b,(φ' ν).blk = some b → (φ' ν').blk ≠ some b) : HC φ' hp' lo w0 w':=by
 refine ⟨hb,Nat.le_trans h.l0 E.sz,fin,fun ν e he=>?_,fun ν ν' b hne h1 h2 h3 h4=>?_,fun ν b h1 h2=>?_⟩
 · by_cases hA : A ν
   · exact haff ν hA e he
   · obtain ⟨e1,e2⟩:=hun ν hA
     rw [e1] at he
     rw [e2]
     exact (h.ent ν e he).evo E fun hk b hb'=>hbl ν hA ⟨e,he,hk⟩ b hb'
 · by_cases hA : A ν
   · exact hsep ν ν' hA hne h1 h2 b h3 h4
   · by_cases hA' : A ν'
     · exact hsep ν' ν hA' (Ne.symm hne) h2 h1 b h4 h3
     · obtain ⟨e1,e2⟩:=hun ν hA
       obtain ⟨e3,e4⟩:=hun ν' hA'
       unfold cf at h1 h2
       rw [e1] at h1;rw [e2] at h3;rw [e3] at h2;rw [e4] at h4
       exact h.sep ν ν' b hne h1 h2 h3 h4
 · by_cases hA : A ν
   · exact hlo ν hA h1 b h2
   · obtain ⟨e1,e2⟩:=hun ν hA
     unfold jq at h1
     rw [e1] at h1;rw [e2] at h2
     exact h.lo ν b h1 h2
end Go.Proofs.Ytlodllmpndflcaa
namespace Go.Proofs.Ytlodllmpndflcaa
set_option linter.unusedVariables false
set_option linter.unusedSimpArgs false
open Go.RowKit
def upd {α : Type} (f : Nat → α) (t : Nat) (v : α) : Nat → α:=fun s=>if s = t then v else f s
theorem bt {α : Type} (f : Nat → α) (t : Nat) (v : α) : upd f t v t = v:=if_pos rfl
theorem cc {α : Type} {f : Nat → α} {t s : Nat} {v : α} (h : s ≠ t) : upd f t v s = f s:=if_neg h
theorem ld {α : Type} (f : Nat → α) {t s : Nat} (v u : α) (h : t ≠ s) : upd (upd f t v) s u = upd (upd f s u) t v:=by
 funext x;unfold upd;by_cases h1 : x = s <;> by_cases h2 : x = t <;> simp [h1,h2]
 · subst h1;exact absurd h2.symm h
 · intro e;exact absurd e.symm h
 · intro e;exact absurd e h
def cn {α : Type} (f : Nat → α) (d : Option Nat) (v : α) : Nat → α :=
 match d with
 | some t => upd f t v
 | none => f
def aY (hp : Hp) : List (Nat × Ent) → Hp
 | [] => hp
 | (ν, e) :: l => aY (upd hp ν (some e)) l
def FA : List Ent → Hp → List Nat → (Hp → List Nat → Prop) → Prop
 | [], hp, acc, k => k hp acc
 | e :: es, hp, acc, k => ∃ ν, hp ν = none ∧ FA es (upd hp ν (some e)) (acc ++ [ν]) k
inductive TSh where
 | int (k : IntKind)
 | bool
 | slice (e : TypeId)
 | struct (fs : List (Nat × TypeId))
 | other
structure TInfo where
 sh : TSh
 size : Nat
 zero : List AV
 em : Option C
abbrev TI:=TypeId → Option TInfo
def TSh.isStruct : TSh → Bool
 | .struct _ => true
 | _ => false
structure Eff where
 cond : Prop
 nw : List Ent
 up : List (Nat × Ent)
 val : List Nat → AV
def ret (v : AV) : Option Eff:=some ⟨True,[],[],fun _=>v⟩
def iT (p : Prop) (v : AV) : Option Eff:=some ⟨p,[],[],fun _=>v⟩
def iz : Value → AV
 | .int k n => .c (.int k n)
 | .bool b => .c (.bool b)
 | .slice none 0 0 => .c .nul
 | v => .k v
def evT (tm : Nat → AV) : Operand → AV
 | .tmp t => tm t
 | .const v => iz v
 | .global g => .k (.pointer (some ⟨g, 0, none⟩))
 | .func f => .fn (.func f) []
def AV.one : AV → Bool
 | .any | .agg _ | .tup _ => false
 | .k v => v.oneCell'
 | _ => true
def AV.cells : AV → Option (List AV)
 | .agg l => if l.all AV.one then some l else none
 | a => if a.one then some [a] else none
def toC (hp : Hp) : AV → Option (C × List Nat)
 | .c c => some (c, [])
 | .sl ν => match hp ν with
   | some (.arr _ nn c) => some (if nn.nn then .nn c else c, [ν])
   | _ => none
 | _ => none
def fa (hp : Hp) : List AV → Option (List C × List Nat)
 | [] => some ([], [])
 | a :: l => match toC hp a, fa hp l with
   | some (c, fz), some (cs, fs) => some (c :: cs, fz ++ fs)
   | _, _ => none
def C.row : C → Option (List Int)
 | .I xs => some xs
 | .nn c => c.row
 | .nul => some []
 | _ => none
def rj : C → List C → Option C
 | .I xs, [.int .i64 n] => some (.I (xs ++ [n]))
 | .B xs, [.bool b] => some (.B (xs ++ [b]))
 | .Y xs, [.int .u8 n] => some (.Y (xs ++ [n]))
 | .R xss, [c] => match c.row with
   | some r => some (.R (xss ++ [r]))
   | none => none
 | .V wd es, cs => if cs.length = wd then some (.V wd (es ++ [cs])) else none
 | _, _ => none
def rk : C → Nat → List C → Option C
 | .I xs, i, [.int .i64 n] => some (.I (xs.set i n))
 | .B xs, i, [.bool b] => some (.B (xs.set i b))
 | .Y xs, i, [.int .u8 n] => some (.Y (xs.set i n))
 | .R xss, i, [c] => match c.row with
   | some r => some (.R (xss.set i r))
   | none => none
 | .V wd es, i, cs => if cs.length = wd then some (.V wd (es.set i cs)) else none
 | _, _, _ => none
def gk : C → C → Option C
 | c, .nn d => gk c d
 | c, .nul => some c
 | .I xs, .I ys => some (.I (xs ++ ys))
 | .B xs, .B ys => some (.B (xs ++ ys))
 | .Y xs, .Y ys => some (.Y (xs ++ ys))
 | .R xs, .R ys => some (.R (xs ++ ys))
 | .V wd es, .V wd' fs => if wd = wd' then some (.V wd (es ++ fs)) else none
 | _, _ => none
def jr (l h : Nat) : C → Option C
 | .I xs => some (.I ((xs.take h).drop l))
 | .B xs => some (.B ((xs.take h).drop l))
 | .Y xs => some (.Y ((xs.take h).drop l))
 | .R xs => some (.R ((xs.take h).drop l))
 | .V wd xs => some (.V wd ((xs.take h).drop l))
 | .nn c => jr l h c
 | _ => none
def nb (n : Nat) : List C → C → Option C
 | [.int .i64 0], .I _ => some (.I (List.replicate n 0))
 | [.bool false], .B _ => some (.B (List.replicate n false))
 | [.nul], .R _ => some (.R (List.replicate n []))
 | z, .V wd _ => if z.length = wd then some (.V wd (List.replicate n z)) else none
 | _, _ => none
def fS : List AV → Option (List C)
 | [] => some []
 | .c c :: l => match fS l with
   | some cs => some (c :: cs)
   | none => none
 | _ :: _ => none
def iq (hp : Hp) : C → List AV → Option (C × List Nat)
 | c, [] => some (c, [])
 | c, a :: l => match a.cells with
   | some l1 => match fa hp l1 with
     | some (cs, fz) => match rj c cs with
       | some c' => match iq hp c' l with
         | some (c2, fs) => some (c2, fz ++ fs)
         | none => none
       | none => none
     | none => none
   | none => none
def ff (l : List AV) : Nat → List AV → List AV
 | _, [] => l
 | o, a :: l' => ff (l.set o a) (o + 1) l'
def jB (ti : TI) (fs : List (Nat × TypeId)) (l : List AV) : List (Nat × AV) → Option (List AV)
 | [] => some l
 | (i, a) :: rest => match fs[i]? with
   | some (off, T) => match ti T, a.cells with
     | some t, some cs => if cs.length = t.size ∧ off + cs.length ≤ l.length then jB ti fs (ff l off cs) rest else none
     | _, _ => none
   | none => none
def b7 (l : List Nat) : List (Nat × Ent):=l.map fun ν=>(ν,.dead)
def nW (k : IntKind) (a b : Int) : Int:=k.wrap ((BitVec.ofInt k.bits a &&& BitVec.ofInt k.bits b).toNat : Int)
def orI (k : IntKind) (a b : Int) : Int:=k.wrap ((BitVec.ofInt k.bits a ||| BitVec.ofInt k.bits b).toNat : Int)
def t6 (k : IntKind) (a b : Int) : Int:=k.wrap (a * 2 ^ min b.toNat k.bits)
def rl (k : IntKind) (a b : Int) : Int:=a.fdiv (2 ^ min b.toNat k.bits)
def rm (ti : TI) (hp : Hp) (op : BinOp) (T : TypeId) : AV → AV → Option Eff
 | .c (.int k a), .c (.int k' b) => if k = k' then
    match op with
    | .add => ret (.c (.int k (k.wrap (a + b))))
    | .sub => ret (.c (.int k (k.wrap (a - b))))
    | .mul => ret (.c (.int k (k.wrap (a * b))))
    | .quo => iT (b ≠ 0) (.c (.int k (k.wrap (a.tdiv b))))
    | .rem => iT (b ≠ 0) (.c (.int k (a.tmod b)))
    | .eql => ret (.c (.bool (a == b)))
    | .neq => ret (.c (.bool (a != b)))
    | .lss => ret (.c (.bool (decide (a < b))))
    | .leq => ret (.c (.bool (decide (a ≤ b))))
    | .gtr => ret (.c (.bool (decide (a > b))))
    | .geq => ret (.c (.bool (decide (a ≥ b))))
    | .and => ret (.c (.int k (nW k a b)))
    | .or => ret (.c (.int k (orI k a b)))
    | .shl => iT (0 ≤ b) (.c (.int k (t6 k a b)))
    | .shr => iT (0 ≤ b) (.c (.int k (rl k a b)))
    | _ => none
   else none
 | .c (.bool a), .c (.bool b) => match ti T with
   | some t => match t.sh, op with
     | .bool, .eql => ret (.c (.bool (a == b)))
     | .bool, .neq => ret (.c (.bool (!(a == b))))
     | _, _ => none
   | none => none
 | .c .nul, .c .nul => match ti T with
   | some t => match t.sh, op with
     | .slice _, .eql => ret (.c (.bool true))
     | .slice _, .neq => ret (.c (.bool false))
     | _, _ => none
   | none => none
 | .c (.nn _), .c .nul => match ti T with
   | some t => match t.sh, op with
     | .slice _, .eql => ret (.c (.bool false))
     | .slice _, .neq => ret (.c (.bool true))
     | _, _ => none
   | none => none
 | _, _ => none
def unW (op : UnOp) : AV → Option Eff
 | .c (.bool b) => match op with
   | .not => ret (.c (.bool !b))
   | _ => none
 | .c (.int k n) => match op with
   | .neg => ret (.c (.int k (k.wrap (0 - n))))
   | _ => none
 | _ => none
def ig (ti : TI) (hp : Hp) (T : TypeId) : AV → Option Eff
 | .ad ν off => match hp ν, ti T with
   | some (.box l), some t => if t.sh.isStruct then (if off + t.size ≤ l.length then ret (.agg ((l.drop off).take t.size)) else none) else (match l[off]? with
     | some a => ret a
     | none => none)
   | _, _ => none
 | .el wd f => match ti T with
   | some t => if t.sh.isStruct then (if t.size ≤ wd then ret (.agg ((List.range t.size).map fun j => .c (f j))) else none) else (if 0 < wd then ret (.c (f 0)) else none)
   | none => none
 | .ea ν i j => match hp ν, ti T with
   | some (.arr _ _ c), some t => match c.view with
     | some V => if t.sh.isStruct then iT (i < V.len ∧ j + t.size ≤ V.wd) (.agg ((List.range t.size).map fun q => .c (V.at' i (j + q)))) else iT (i < V.len ∧ j < V.wd) (.c (V.at' i j))
     | none => none
   | _, _ => none
 | _ => none
def fT (ti : TI) (hp : Hp) (T : TypeId) (x y : AV) : Option Eff :=
 match ti T,y.cells with
 | some t, some cs => if cs.length = t.size then
    match x with
    | .ad ν off => match hp ν with
      | some (.box l) => if off + cs.length ≤ l.length then some ⟨True, [], [(ν, .box (ff l off cs))], fun _ => .any⟩ else none
      | _ => none
    | .ea ν i j => match hp ν with
      | some (.arr T' nn c) => match c.view, fa hp cs with
        | some V, some (ds, fz) => match rk c i ds with
          | some c' => some ⟨i < V.len ∧ j = 0 ∧ ¬ ν ∈ fz, [], b7 fz ++ [(ν, .arr T' nn c')], fun _ => .any⟩
          | none => none
        | _, _ => none
      | _ => none
    | _ => none
   else none
 | _, _ => none
def slC (hp : Hp) : AV → Option C
 | .c c => some c
 | .sl ν => match hp ν with
   | some (.arr _ nn c) => some (if nn.nn then .nn c else c)
   | _ => none
 | _ => none
def dP : C → Option Nat
 | .nul => some 0
 | c => match c.view with
   | some V => some V.len
   | none => none
def fU (ti : TI) (hp : Hp) (T : TypeId) (x ix : AV) : Option Eff :=
 match ti T,ix with
 | some t, .c (.int k i) => match t.sh with
   | .slice e => match ti e with
     | some te => match x with
       | .c c => match c.view with
         | some V => if V.wd = te.size then iT (0 ≤ i ∧ i < V.len) (.el V.wd fun j => V.at' i.toNat j) else none
         | none => none
       | .sl ν => match hp ν with
         | some (.arr _ _ c) => match c.view with
           | some V => if V.wd = te.size then iT (0 ≤ i ∧ i < V.len) (.ea ν i.toNat 0) else none
           | none => none
         | _ => none
       | _ => none
     | none => none
   | _ => none
 | _, _ => none
def gM (d : Int) : Option AV → Option Int
 | none => some d
 | some (.c (.int _ n)) => some n
 | _ => none
def fV (ti : TI) (hp : Hp) (T : TypeId) (x : AV) (lo hi : Option AV) : Option Eff :=
 match ti T with
 | some t => match t.sh with
   | .slice e => match ti e with
     | some te => match x with
       | .c c => match c.view with
         | some V => match gM 0 lo, gM V.len hi with
           | some l, some h => if V.wd = te.size then match jr l.toNat h.toNat c with
             | some c' => iT (0 ≤ l ∧ l ≤ h ∧ h ≤ V.len) (.c c')
             | none => none
             else none
           | _, _ => none
         | none => none
       | .sl ν => match hp ν with
         | some (.arr T' nn c) => match c.view with
           | some V => match gM 0 lo, gM V.len hi with
             | some l, some h => if V.wd = te.size then match jr l.toNat h.toNat c with
               | some c' => some ⟨0 ≤ l ∧ l ≤ h ∧ h ≤ V.len, [.arr T' ⟨nn.nn, nn.hd && l == 0⟩ c'], [(ν, .dead)], fun ν' => .sl (ν'.getD 0 0)⟩
               | none => none
               else none
             | _, _ => none
           | none => none
         | _ => none
       | _ => none
     | none => none
   | _ => none
 | none => none
def eO (ti : TI) (hp : Hp) (T : TypeId) (x y : AV) : Option Eff :=
 match ti T with
 | some t => match t.sh with
   | .slice e => match ti e with
     | some te => match slC hp y, te.em with
       | some d, some em => match dP d with
         | some m => match x with
           | .c .nul => match gk em d with
             | some c' => some ⟨m ≤ 137438953472, [.arr e .may c'], [], fun ν' => .sl (ν'.getD 0 0)⟩
             | none => none
           | .sl ν => match hp ν with
             | some (.arr T' nn c) => match c.view, gk c d with
               | some V, some c' => if T' = e ∧ V.wd = te.size then some ⟨V.len + m ≤ 137438953472, [.arr e nn c'], [(ν, .dead)], fun ν' => .sl (ν'.getD 0 0)⟩ else none
               | _, _ => none
             | _ => none
           | _ => none
         | none => none
       | _, _ => none
     | none => none
   | _ => none
 | none => none
def l4 (hp : Hp) (x : AV) : Option Eff :=
 match slC hp x with
 | some c => match dP c with
   | some n => ret (.c (.int .i64 n))
   | none => none
 | none => none
def rn : List AV → Option Eff
 | [.c (.int k a), .c (.int k' b)] => if k = k' then ret (.c (.int k (if b > a then b else a))) else none
 | _ => none
def ro : List AV → Option Eff
 | [.c (.int k a), .c (.int k' b)] => if k = k' then ret (.c (.int k (if b < a then b else a))) else none
 | _ => none
def cK (ti : TI) (hp : Hp) (T : TypeId) (x : AV) (f : Nat) : Option Eff :=
 match ti T with
 | some t => match t.sh with
   | .struct fs => match fs[f]? with
     | some (o, T') => match ti T' with
       | some t' => if 0 < t'.size then match x with
         | .ad ν off => match hp ν with
           | some (.box _) => ret (.ad ν (off + o))
           | _ => none
         | .el wd g => if o ≤ wd then ret (.el (wd - o) fun j => g (o + j)) else none
         | .ea ν i j => match hp ν with
           | some (.arr _ _ _) => ret (.ea ν i (j + o))
           | _ => none
         | _ => none
         else none
       | none => none
     | none => none
   | _ => none
 | none => none
def kk (ti : TI) (T : TypeId) (x : AV) (f : Nat) : Option Eff :=
 match ti T with
 | some t => match t.sh with
   | .struct fs => match fs[f]? with
     | some (o, T') => match x, ti T' with
       | .agg l, some t' => if t'.sh.isStruct then ret (.agg ((l.drop o).take t'.size)) else (match l[o]? with
         | some a => ret a
         | none => none)
       | _, _ => none
     | none => none
   | _ => none
 | none => none
def km (ti : TI) (T : TypeId) (parts : List (Nat × AV)) : Option Eff :=
 match ti T with
 | some t => match t.sh with
   | .struct fs => match jB ti fs t.zero parts with
     | some l => ret (.agg l)
     | none => none
   | _ => none
 | none => none
def dw (ti : TI) (hp : Hp) (T : TypeId) (n : Nat) (parts : List (Nat × AV)) : Option Eff :=
 match ti T with
 | some t => match t.sh with
   | .slice e => match ti e with
     | some te => match te.em with
       | some em => if parts.map (·.1) = List.range n ∧ n ≤ 1000 ∧ te.size ≤ 1000 then
          match iq hp em (parts.map (·.2)) with
          | some (c, fz) => some ⟨True, [.arr e .yes c], b7 fz, fun ν' => .sl (ν'.getD 0 0)⟩
          | none => none
         else none
       | none => none
     | none => none
   | _ => none
 | none => none
def nc (ti : TI) (T : TypeId) (l c : AV) : Option Eff :=
 match ti T,l,c with
 | some t, .c (.int _ n), .c (.int _ n') => match t.sh with
   | .slice e => match ti e with
     | some te => match te.em, fS te.zero with
       | some em, some z => match nb n.toNat z em with
         | some c' => some ⟨0 ≤ n ∧ n ≤ 1048576 ∧ n' = n, [.arr e .yes c'], [], fun ν' => .sl (ν'.getD 0 0)⟩
         | none => none
       | _, _ => none
     | none => none
   | _ => none
 | _, _, _ => none
def ne (ti : TI) (dst : TypeId) : AV → Option Eff
 | .c (.int _ n) => match ti dst with
   | some t => match t.sh with
     | .int k => ret (.c (.int k (k.wrap n)))
     | _ => none
   | none => none
 | _ => none
def lf (hp : Hp) : AV → Option Eff
 | .ad ν off => match hp ν with
   | some (.box _) => ret (.ad ν off)
   | _ => none
 | .el wd f => ret (.el wd f)
 | .ea ν i j => match hp ν with
   | some (.arr _ _ _) => ret (.ea ν i j)
   | _ => none
 | _ => none
def opW (ti : TI) (ev : Operand → AV) (hp : Hp) : Op → Option Eff
 | .move x | .assign x => ret (ev x)
 | .pick c a b => match ev c with
   | .c (.bool t) => ret (if t then ev a else ev b)
   | _ => none
 | .alloc T => match ti T with
   | some t => some ⟨True, [.box t.zero], [], fun ν => .ad (ν.getD 0 0) 0⟩
   | none => none
 | .box _ x => match (ev x).cells with
   | some l => some ⟨True, [.box l], [], fun ν => .ad (ν.getD 0 0) 0⟩
   | none => none
 | .build T parts => km ti T (parts.toList.map fun p => (p.1, ev p.2))
 | .buildSlice T n parts => dw ti hp T n (parts.toList.map fun p => (p.1, ev p.2))
 | .load T x => ig ti hp T (ev x)
 | .store T x y => fT ti hp T (ev x) (ev y)
 | .nilCheck x => lf hp (ev x)
 | .binOp op T x y _ => rm ti hp op T (ev x) (ev y)
 | .unOp op _ x => unW op (ev x)
 | .convert src dst x => match ti src with
   | some _ => ne ti dst (ev x)
   | none => none
 | .makeFunc fn first cap => if first.size = 0 then ret (.fn fn (cap.toList.map ev)) else none
 | .makeSlice T l c => nc ti T (ev l) (ev c)
 | .slice T x lo hi mx => match mx with
   | none => fV ti hp T (ev x) (lo.map ev) (hi.map ev)
   | some _ => none
 | .fieldAddr T x f => cK ti hp T (ev x) f
 | .field T x f => kk ti T (ev x) f
 | .indexAddr T x ix => fU ti hp T (ev x) (ev ix)
 | .extract x i => match ev x with
   | .tup l => match l[i]? with
     | some a => ret a
     | none => none
   | _ => none
 | .call c => match c.callee with
   | .builtin .len => match c.args.toList, c.argTypes.toList with
     | [x], [T] => match ti T with
       | some t => match t.sh with
         | .slice _ => l4 hp (ev x)
         | _ => none
       | none => none
     | _, _ => none
   | .builtin .append => match c.args.toList, c.argTypes.toList with
     | [x, y], [T, T'] => if T = T' then eO ti hp T (ev x) (ev y) else none
     | _, _ => none
   | .builtin .max => rn (c.args.toList.map ev)
   | .builtin .min => ro (c.args.toList.map ev)
   | _ => none
 | _ => none
mutual
def AV.names : AV → List Nat
 | .sl ν => [ν]
 | .ad ν _ => [ν]
 | .ea ν _ _ => [ν]
 | .agg l => bp l
 | .tup l => bp l
 | .fn _ l => bp l
 | .any | .c _ | .k _ | .el _ _ => []
def bp : List AV → List Nat
 | [] => []
 | a :: l => a.names ++ bp l
end
end Go.Proofs.Ytlodllmpndflcaa
namespace Go.Proofs.Ytlodllmpndflcaa
set_option linter.unusedVariables false
set_option linter.unusedSimpArgs false
open Go.RowKit
theorem lg (hp : Hp) (l m : List (Nat × Ent)) : aY hp (l ++ m) = aY (aY hp l) m:=by
 induction l generalizing hp with
 | nil => rfl
 | cons p l ih => exact ih _
theorem co {hp : Hp} {l : List Nat} {ν : Nat} : aY hp (b7 l) ν = if ν ∈ l then some .dead else hp ν:=by
 induction l generalizing hp with
 | nil => rfl
 | cons x l ih =>
   show aY (upd hp x (some .dead)) (b7 l) ν = _
   rw [ih]
   by_cases h1 : ν ∈ l
   · rw [if_pos h1,if_pos (List.mem_cons_of_mem _ h1)]
   · rw [if_neg h1]
     by_cases h2 : ν = x
     · subst h2;rw [bt,if_pos List.mem_cons_self]
     · rw [cc h2,if_neg (by simp [h1,h2])]
theorem eP {hp : Hp} {l : List Nat} {ν : Nat} : cf (aY hp (b7 l)) ν ↔ ¬ ν ∈ l ∧ cf hp ν:=by
 unfold cf
 rw [co]
 by_cases h : ν ∈ l
 · simp only [h,↓reduceIte,not_true,false_and,iff_false]
   rintro ⟨e,he,hk⟩
   injection he with he;subst he;exact hk rfl
 · simp [h]
theorem kn {hp : Hp} (h : ∃ b,∀ ν,b ≤ ν → hp ν = none) (ν : Nat) (e : Ent) : ∃ b,∀ ν',b ≤ ν' → upd hp ν (some e) ν' = none:=by
 obtain ⟨b,hb⟩:=h
 exact ⟨b + ν + 1,fun ν' h=>by rw [cc (by omega)];exact hb _ (by omega)⟩
theorem jC {hp : Hp} (h : ∃ b,∀ ν,b ≤ ν → hp ν = none) (l : List Nat) : ∃ b,∀ ν',b ≤ ν' → aY hp (b7 l) ν' = none:=by
 induction l generalizing hp with
 | nil => exact h
 | cons x l ih => exact ih (kn h x .dead)
theorem eq {φ : Nat → Loc} {hp : Hp} {w w' : World} {loc : Loc} {T : TypeId} {nn : Fl} {c : C} {O' : Nat → Prop} (h : e9 φ hp w loc (.arr T nn c))
  (hb : ∀ b,b < w.heap.size → (¬ Own φ hp b ∨ loc.blk = some b) → w'.heap[b]? = w.heap[b]? ∧ ¬ O' b) (hz : w.heap.size ≤ w'.heap.size) : Rd O' w' (if nn.nn then .nn c else c) loc.val:=by
 have core : ∀ (nn' : Bool),(nn' = true → nn.nn = true) → Rd O' w' (if nn' then .nn c else c) loc.val:=by
  intro nn' hnn
  obtain ⟨V,hv,hc0,⟨rfl,h0,h1⟩|⟨g,o,cp,cur,rfl,h1,h2,h3,h4,_,h5⟩⟩:=h
  · have e : nn' = false:=by cases nn' with|false=>rfl|true=>rw [hnn rfl] at h1;cases h1
    subst e
    simp only [Bool.false_eq_true,if_false,Loc.val]
    have:=Rd.sl (O:=O') (w:=w') (c:=c) (V:=V) (sa:=none) (cp:=0) (vs:=fun _ _=>undef) hv (fun hn=>?_) (by omega) (by omega) (fun _=>⟨h0,rfl⟩) (fun ad e=>by cases e) (fun ad e=>by cases e) (fun i hi=>by omega)
    · rw [h0] at this;exact this
    · rw [hc0] at hn;cases hn
  · have hg : g < w.heap.size:=(Array.getElem?_eq_some_iff.1 h1).1
    obtain ⟨hs1,hs2⟩:=hb g hg (.inr rfl)
    have hv' : (if nn' then C.nn c else c).view = some V:=by cases nn' <;> exact hv
    refine .sl (vs:=fun i j=>(cur[o + (i * V.wd + j)]?).getD undef) hv' (fun _ e=>by cases e) h2 h3 (fun e=>by cases e) (fun ad e hl=>?_) (fun ad e i hi j hj=>?_) (fun i hi j hj=>?_)
    · injection e with e;subst e;exact ⟨rfl,hs2,Nat.lt_of_lt_of_le hg hz⟩
    · injection e with e;subst e
      obtain ⟨v,h6,_⟩:=h5 i hi j hj
      rw [World.cell_same hs1]
      simp [World.cell?,h1,h6]
    · obtain ⟨v,h6,h7⟩:=h5 i hi j hj
      rw [h6]
      exact h7.mono (fun b hb1 hb2=>hb b hb1 (.inl hb2)) hz
 exact core nn.nn fun h=>h
theorem rp {hp : Hp} {a : AV} {c : C} {fz : List Nat} (h : toC hp a = some (c,fz)) : ∀ ν,ν ∈ fz → ∃ T nn d,hp ν = some (.arr T nn d):=by
 cases a with
 | c d => simp only [toC, Option.some.injEq, Prod.mk.injEq] at h; obtain ⟨rfl, rfl⟩ := h; intro ν hν; cases hν
 | sl ν0 =>
   simp only [toC] at h
   split at h
   · rename_i T nn d he
     simp only [Option.some.injEq,Prod.mk.injEq] at h;obtain ⟨rfl,rfl⟩:=h
     intro ν hν
     simp only [List.mem_singleton] at hν
     subst hν
     exact ⟨T,nn,d,he⟩
   · cases h
 | _ => cases h
theorem l5 {φ : Nat → Loc} {hp : Hp} {lo : Nat} {w0 w w' : World} {a : AV} {c : C} {fz : List Nat} {v : Value} {O' : Nat → Prop} (H : HC φ hp lo w0 w) (h : toC hp a = some (c,fz)) (hv : AVC φ hp w a v)
  (hb : ∀ b,b < w.heap.size → (¬ Own φ hp b ∨ ∃ ν,ν ∈ fz ∧ cf hp ν ∧ (φ ν).blk = some b) → w'.heap[b]? = w.heap[b]? ∧ ¬ O' b) (hz : w.heap.size ≤ w'.heap.size) : Rd O' w' c v:=by
 cases a with
 | c d =>
   simp only [toC,Option.some.injEq,Prod.mk.injEq] at h;obtain ⟨rfl,rfl⟩:=h
   cases hv with
   | c h => exact h.mono (fun b h1 h2 => hb b h1 (.inl h2)) hz
 | sl ν0 =>
   simp only [toC] at h
   split at h
   · rename_i T nn d he
     simp only [Option.some.injEq,Prod.mk.injEq] at h;obtain ⟨rfl,rfl⟩:=h
     have hl : cf hp ν0:=⟨_,he,by simp [Ent.kind]⟩
     have e : v = (φ ν0).val:=by
      cases hv with
      | sl => rfl
      | sld h2 hk => rw [he] at h2; injection h2 with h2; subst h2; simp [Ent.kind] at hk
     subst e
     exact eq (H.ent ν0 _ he) (fun b h1 h2=>hb b h1 (h2.imp id fun h3=>⟨ν0,List.mem_singleton.2 rfl,hl,h3⟩)) hz
   · cases h
 | _ => cases h
theorem HC.put {φ : Nat → Loc} {hp : Hp} {lo : Nat} {w0 w w' : World} (H : HC φ hp lo w0 w) {fz : List Nat} {ν : Nat} (hν : hp ν = none) (hfz : ∀ x,x ∈ fz → ∃ e,hp x = some e ∧ e.kind = 1) {loc : Loc} {e : Ent}
  (hw : Below lo w0 w') (hz : w.heap.size ≤ w'.heap.size) (hloc : ∀ g,loc.blk = some g → w.heap.size ≤ g ∨ ∃ x,x ∈ fz ∧ jq hp x ∧ (φ x).blk = some g)
  (hun : ∀ b,b < w.heap.size → loc.blk ≠ some b → w'.heap[b]? = w.heap[b]?) (hent : Evo φ hp w (upd φ ν loc) (upd (aY hp (b7 fz)) ν (some e)) w' → e9 (upd φ ν loc) (upd (aY hp (b7 fz)) ν (some e)) w' loc e) :
  HC (upd φ ν loc) (upd (aY hp (b7 fz)) ν (some e)) lo w0 w' ∧ Evo φ hp w (upd φ ν loc) (upd (aY hp (b7 fz)) ν (some e)) w':=by
 have hνf : ¬ ν ∈ fz:=fun h=>by obtain ⟨e,he,_⟩:=hfz ν h;rw [hν] at he;cases he
 have live' : ∀ x,x ≠ ν → (cf (upd (aY hp (b7 fz)) ν (some e)) x ↔ ¬ x ∈ fz ∧ cf hp x):=by
  intro x hx
  unfold cf
  rw [cc hx]
  exact eP
 have hφ : ∀ x,x ≠ ν → upd φ ν loc x = φ x:=fun x hx=>cc hx
 have own' : ∀ b,b < w.heap.size → Own (upd φ ν loc) (upd (aY hp (b7 fz)) ν (some e)) b → Own φ hp b:=by
  rintro b hb ⟨x,hx,hxb⟩
  by_cases ex : x = ν
  · subst ex
    rw [bt] at hxb
    rcases hloc b hxb with h|⟨y,_,h2,h3⟩
    · omega
    · exact ⟨y,h2.live,h3⟩
  · rw [hφ x ex] at hxb
    exact ⟨x,((live' x ex).1 hx).2,hxb⟩
 have E : Evo φ hp w (upd φ ν loc) (upd (aY hp (b7 fz)) ν (some e)) w':=by
  refine ⟨fun x e0 hx=>?_,fun b hb ho=>⟨hun b hb fun h=>?_,fun h=>ho (own' b hb h)⟩,hz,fun b hb ⟨y,y1,y2⟩=>hun b hb fun h=>?_⟩
  · have ex : x ≠ ν:=fun h=>by subst h;rw [hν] at hx;cases hx
    rw [cc ex,co,hφ x ex]
    by_cases h : x ∈ fz
    · rw [if_pos h];obtain ⟨e1,f1,f2⟩:=hfz x h;rw [hx] at f1;injection f1 with f1;subst f1;exact ⟨.dead,rfl,.inl ⟨rfl,by omega⟩⟩
    · rw [if_neg h];exact ⟨e0,hx,.inr ⟨rfl,rfl⟩⟩
  · rcases hloc b h with h1|⟨y,_,h2,h3⟩
    · omega
    · exact ho ⟨y,h2.live,h3⟩
  · rcases hloc b h with h1|⟨x,_,h2,h3⟩
    · omega
    · refine H.sep y x b (fun e=>?_) ⟨_,y1,by simp [Ent.kind]⟩ h2.live y2 h3
      subst e
      obtain ⟨e0,q1,q2⟩:=h2
      rw [y1] at q1;injection q1 with q1;subst q1;simp [Ent.kind] at q2
 refine ⟨H.step hw E (fun x=>x = ν ∨ x ∈ fz) (kn (jC H.fin fz) ν e) (fun x hx=>?_) (fun x hx hl b hb=>?_) (fun x hx e' he'=>?_) (fun x hx hl b hb=>?_) (fun x x' hx hne h1 h2 b h3 h4=>?_),E⟩
 · have h1 : x ≠ ν:=fun h=>hx (.inl h)
   have h2 : ¬ x ∈ fz:=fun h=>hx (.inr h)
   rw [cc h1,co,if_neg h2,hφ x h1];exact ⟨rfl,rfl⟩
 · have h1 : x ≠ ν:=fun h=>hx (.inl h)
   have h2 : ¬ x ∈ fz:=fun h=>hx (.inr h)
   refine hun b (H.lt hl hb) fun h=>?_
   rcases hloc b h with h3|⟨y,h4,h5,h6⟩
   · have:=H.lt hl hb;omega
   · exact H.sep x y b (fun e=>h2 (by subst e;exact h4)) hl h5.live hb h6
 · by_cases ex : x = ν
   · subst ex
     rw [bt] at he' ⊢
     injection he' with he';subst he'
     exact hent E
   · have h2 : x ∈ fz:=hx.resolve_left ex
     rw [cc ex,co,if_pos h2] at he'
     injection he' with he';subst he';trivial
 · by_cases ex : x = ν
   · subst ex
     rw [bt] at hb
     rcases hloc b hb with h|⟨y,_,h2,h3⟩
     · have:=H.l0;omega
     · exact H.lo y b h2 h3
   · exact absurd (hx.resolve_left ex) ((live' x ex).1 hl.live).1
 · by_cases ex : x = ν
   · subst ex
     rw [bt] at h3
     have ex' : x' ≠ x:=Ne.symm hne
     obtain ⟨h5,h6⟩:=(live' x' ex').1 h2
     rw [hφ x' ex'] at h4
     rcases hloc b h3 with h|⟨y,h7,h8,h9⟩
     · have:=H.lt h6 h4;omega
     · exact H.sep x' y b (fun e=>h5 (by subst e;exact h7)) h6 h8.live h4 h9
   · exact absurd (hx.resolve_left ex) ((live' x ex).1 h1).1
theorem HC.write {φ : Nat → Loc} {hp : Hp} {lo : Nat} {w0 w w' : World} (H : HC φ hp lo w0 w) {fz : List Nat} {ν : Nat} {e e' : Ent} (hν : hp ν = some e) (hk : e'.kind = e.kind) (hk2 : e.kind ≠ 2) (hfz : ∀ x,x ∈ fz → ∃ e,hp x = some e ∧ e.kind = 1) (hνf : ¬ ν ∈ fz)
  (hw : Below lo w0 w') (hz : w.heap.size ≤ w'.heap.size) (hun : ∀ b,b < w.heap.size → (φ ν).blk ≠ some b → w'.heap[b]? = w.heap[b]?)
  (hent : Evo φ hp w φ (upd (aY hp (b7 fz)) ν (some e')) w' → e9 φ (upd (aY hp (b7 fz)) ν (some e')) w' (φ ν) e') (hk3 : e'.kind ≠ 3:=by simp [Ent.kind]) :
  HC φ (upd (aY hp (b7 fz)) ν (some e')) lo w0 w' ∧ Evo φ hp w φ (upd (aY hp (b7 fz)) ν (some e')) w':=by
 have hlν : cf hp ν:=⟨e,hν,hk2⟩
 have live' : ∀ x,cf (upd (aY hp (b7 fz)) ν (some e')) x ↔ ¬ x ∈ fz ∧ cf hp x:=by
  intro x
  by_cases ex : x = ν
  · subst ex
    refine ⟨fun _=>⟨hνf,hlν⟩,fun _=>⟨e',bt _ _ _,by rw [hk];exact hk2⟩⟩
  · unfold cf
    rw [cc ex]
    exact eP
 have own' : ∀ b,Own φ (upd (aY hp (b7 fz)) ν (some e')) b → Own φ hp b:=by
  rintro b ⟨x,hx,hxb⟩
  exact ⟨x,((live' x).1 hx).2,hxb⟩
 have E : Evo φ hp w φ (upd (aY hp (b7 fz)) ν (some e')) w':=by
  refine ⟨fun x e0 hx=>?_,fun b hb ho=>⟨hun b hb fun h=>ho ⟨ν,hlν,h⟩,fun h=>ho (own' b h)⟩,hz,fun b hb ⟨y,y1,y2⟩=>hun b hb fun h=>?_⟩
  rotate_left
  · refine H.sep y ν b (fun e0=>?_) ⟨_,y1,by simp [Ent.kind]⟩ hlν y2 h
    subst e0
    rw [y1] at hν;injection hν with hν;subst hν
    exact hk3 hk
  by_cases ex : x = ν
  · subst ex
    rw [hν] at hx;injection hx with hx;subst hx
    exact ⟨e',bt _ _ _,.inr ⟨hk,rfl⟩⟩
  · rw [cc ex,co]
    by_cases h : x ∈ fz
    · rw [if_pos h];obtain ⟨e1,f1,f2⟩:=hfz x h;rw [hx] at f1;injection f1 with f1;subst f1;exact ⟨.dead,rfl,.inl ⟨rfl,by omega⟩⟩
    · rw [if_neg h];exact ⟨e0,hx,.inr ⟨rfl,rfl⟩⟩
 refine ⟨H.step hw E (fun x=>x = ν ∨ x ∈ fz) (kn (jC H.fin fz) ν e') (fun x hx=>?_) (fun x hx hl b hb=>?_) (fun x hx e0 he0=>?_) (fun x hx hl b hb=>?_) (fun x x' hx hne h1 h2 b h3 h4=>?_),E⟩
 · have h1 : x ≠ ν:=fun h=>hx (.inl h)
   have h2 : ¬ x ∈ fz:=fun h=>hx (.inr h)
   rw [cc h1,co,if_neg h2];exact ⟨rfl,rfl⟩
 · have h1 : x ≠ ν:=fun h=>hx (.inl h)
   exact hun b (H.lt hl hb) fun h=>H.sep x ν b h1 hl hlν hb h
 · by_cases ex : x = ν
   · subst ex
     rw [bt] at he0
     injection he0 with he0;subst he0
     exact hent E
   · have h2 : x ∈ fz:=hx.resolve_left ex
     rw [cc ex,co,if_pos h2] at he0
     injection he0 with he0;subst he0;trivial
 · by_cases ex : x = ν
   · subst ex
     obtain ⟨e1,g1,g2⟩:=hl
     rw [bt] at g1
     injection g1 with g1;subst g1
     exact H.lo x b ⟨e,hν,by omega⟩ hb
   · exact absurd (hx.resolve_left ex) ((live' x).1 hl.live).1
 · exact H.sep x x' b hne ((live' x).1 h1).2 ((live' x').1 h2).2 h3 h4
theorem HC.same {φ : Nat → Loc} {hp : Hp} {lo : Nat} {w0 w w' : World} (H : HC φ hp lo w0 w) (h1 : w'.heap = w.heap) (h2 : w'.os = w.os) (h3 : w'.tape = w.tape) (h4 : w'.output = w.output) : HC φ hp lo w0 w' ∧ Evo φ hp w φ hp w':=by
 have E : Evo φ hp w φ hp w':=⟨fun ν e h=>⟨e,h,.inr ⟨rfl,rfl⟩⟩,fun b _ h=>⟨by rw [h1],h⟩,by rw [h1];exact Nat.le_refl _,fun b _ _=>by rw [h1]⟩
 have hb : Below lo w0 w':=⟨by rw [h2];exact H.fr.os,by rw [h3];exact H.fr.tape,by rw [h4];exact H.fr.output,by rw [h1];exact H.fr.size,fun b hb'=>by rw [h1];exact H.fr.block b hb'⟩
 exact ⟨⟨hb,by rw [h1];exact H.l0,H.fin,fun ν e he=>(H.ent ν e he).evo E fun _ b _=>by rw [h1],H.sep,H.lo⟩,E⟩
end Go.Proofs.Ytlodllmpndflcaa
namespace Go.Proofs.Ytlodllmpndflcaa
set_option linter.unusedVariables false
set_option linter.unusedSimpArgs false
open Go.RowKit
def fg : TSh → TypeDesc → Prop
 | .int k, d => d = .int k
 | .bool, d => d = .bool
 | .slice e, d => d = .slice e
 | .struct fs, d => ∃ F : Array Field, d = .struct F ∧ ∀ (i o : Nat) (T : TypeId), fs[i]? = some (o, T) → ∃ f : Field, F[i]? = some f ∧ f.offset = o ∧ f.type = T
 | .other, d => d.isRow = false
structure TOk (P : Program) (T : TypeId) (t : TInfo) (i : TypeInfo) (z : Value) (d : TypeDesc) : Prop where
 info : P.info? T = some i
 size : i.size = t.size
 bytes : i.bytes ≤ 1024
 zero : i.zero = some z
 zlen : z.cells.size = t.zero.length
 zlen2 : t.zero.length = t.size
 zval : ∀ j,j < t.zero.length → ∀ φ hp w,AVC φ hp w (t.zero.getD j .any) (z.cells.getD j undef)
 zone : t.zero.all AV.one = true
 und : P.underlying T = some d
 sh : fg t.sh d
 pl : ∀ F fs,t.sh = .struct fs → d = .struct F → ∃ places,F.toList.mapM (fun f=>(P.info? f.type).map fun i=>(f.offset,i.size)) = some places ∧ ∀ (i o : Nat) (T' : TypeId),fs[i]? = some (o,T') → ∃ i',P.info? T' = some i' ∧ places[i]? = some (o,i'.size)
 em : ∀ c,t.em = some c → c.isNN = false ∧ ∃ V,c.view = some V ∧ V.len = 0 ∧ V.wd = t.size
def cP (P : Program) (ti : TI) : Prop:=∀ T t,ti T = some t → ∃ i z d,TOk P T t i z d
def bQ : Hp → List Nat → List Ent → Hp
 | hp, ν :: νs, e :: es => bQ (upd hp ν (some e)) νs es
 | hp, _, _ => hp
def Out (φ : Nat → Loc) (hp : Hp) (lo : Nat) (w0 w : World) (up : List (Nat × Ent)) (nw : List Ent) (val : List Nat → AV) (v : Value) (w' : World) : Prop :=
 ∀ ν : List Nat,ν.length = nw.length → ν.Nodup → (∀ x,x ∈ ν → hp x = none) → ∃ φ',HC φ' (bQ (aY hp up) ν nw) lo w0 w' ∧ Evo φ hp w φ' (bQ (aY hp up) ν nw) w' ∧ AVC φ' (bQ (aY hp up) ν nw) w' (val ν) v
section
variable {φ : Nat → Loc} {hp : Hp} {lo : Nat} {w0 w : World}
theorem dp (H : HC φ hp lo w0 w) {a : AV} {v : Value} (h : AVC φ hp w a v) : Out φ hp lo w0 w [] [] (fun _=>a) v w:=by
 intro ν hl _ _
 have : ν = []:=List.eq_nil_of_length_eq_zero hl
 subst this
 exact ⟨φ,H,Evo.refl _ _ _,h⟩
theorem cJ {c : C} {v : Value} (h : AVC φ hp w (.c c) v) : Rd (Own φ hp) w c v:=by cases h;assumption
theorem ce {k : IntKind} {n : Int} {v : Value} (h : AVC φ hp w (.c (.int k n)) v) : v = .int k n:=by
 cases cJ h with
 | int => rfl
 | sl hv => cases hv
theorem et {b : Bool} {v : Value} (h : AVC φ hp w (.c (.bool b)) v) : v = .bool b:=by
 cases cJ h with
 | bool => rfl
 | sl hv => cases hv
theorem fx {v : Value} (h : AVC φ hp w (.c .nul) v) : v = .slice none 0 0:=by
 cases cJ h with
 | nul => rfl
 | sl hv => cases hv
theorem sJ {c : C} {v : Value} (h : AVC φ hp w (.c (.nn c)) v) : ∃ a n cp,v = .slice (some a) n cp:=by
 cases cJ h with
 | @sl _ V sa cp vs hv hn => cases sa with
   | none => exact absurd rfl (hn rfl)
   | some a => exact ⟨a, _, _, rfl⟩
theorem fh {ν : Nat} {v : Value} {T : TypeId} {nn : Fl} {c : C} (h : AVC φ hp w (.sl ν) v) (he : hp ν = some (.arr T nn c)) : v = (φ ν).val:=by
 cases h with
 | sl => rfl
 | sld h2 hk => rw [he] at h2; injection h2 with h2; subst h2; simp [Ent.kind] at hk
theorem fW {ν off : Nat} {v : Value} {l : List AV} (h : AVC φ hp w (.ad ν off) v) (he : hp ν = some (.box l)) : ∃ g n cp wd,φ ν = .at g 0 n cp wd ∧ v = .pointer (some ⟨g,off,none⟩):=by
 cases h with
 | ad _ _ hl => exact ⟨_, _, _, _, hl, rfl⟩
 | add h2 hk => rw [he] at h2; injection h2 with h2; subst h2; simp [Ent.kind] at hk
theorem l6 {ν i j : Nat} {v : Value} {T : TypeId} {nn : Fl} {c : C} (h : AVC φ hp w (.ea ν i j) v) (he : hp ν = some (.arr T nn c)) : ∃ g o n cp wd,φ ν = .at g o n cp wd ∧ v = .pointer (some ⟨g,o + (i * wd + j),none⟩):=by
 cases h with
 | ea _ _ hl => exact ⟨_, _, _, _, _, hl, rfl⟩
 | ead h2 hk => rw [he] at h2; injection h2 with h2; subst h2; simp [Ent.kind] at hk
end
section
variable {P : Program} {ti : TI}
theorem fy {T : TypeId} {t : TInfo} {i : TypeInfo} {z : Value} {d : TypeDesc} (h : TOk P T t i z d) (w : World) : (isAgg T).run P w = .ok t.sh.isStruct w:=by
 unfold isAgg
 rw [Sem.run_bind,run_underlying h.und w]
 have hs:=h.sh
 revert hs
 cases t.sh with
 | int k => intro hs; simp only [fg] at hs; subst hs; rfl
 | bool => intro hs; simp only [fg] at hs; subst hs; rfl
 | slice e => intro hs; simp only [fg] at hs; subst hs; rfl
 | struct fs => rintro ⟨F, rfl, _⟩; rfl
 | other => intro hs; cases d <;> first | rfl | (simp [fg, TypeDesc.isRow] at hs)
variable {φ : Nat → Loc} {hp : Hp} {lo : Nat} {w0 w : World}
def Okv (P : Program) (φ : Nat → Loc) (hp : Hp) (lo : Nat) (w0 w : World) (E : Eff) (s : Sem Value) : Prop:=∃ v w',s.run P w = .ok v w' ∧ Out φ hp lo w0 w E.up E.nw E.val v w'
theorem b8 (H : HC φ hp lo w0 w) {a : AV} {v : Value} {E : Eff} (hE : ret a = some E) {s : Sem Value} (hs : s.run P w = .ok v w) (h : AVC φ hp w a v) : Okv P φ hp lo w0 w E s:=by
 injection hE with hE;subst hE
 exact ⟨v,w,hs,dp H h⟩
theorem dQ (H : HC φ hp lo w0 w) {a : AV} {p : Prop} {v : Value} {E : Eff} (hE : iT p a = some E) {s : Sem Value} (hs : s.run P w = .ok v w) (h : AVC φ hp w a v) : Okv P φ hp lo w0 w E s:=by
 injection hE with hE;subst hE
 exact ⟨v,w,hs,dp H h⟩
theorem gl (k : IntKind) (n : Int) : AVC φ hp w (.c (.int k n)) (.int k n):=.c (.int k n)
theorem jD (b : Bool) : AVC φ hp w (.c (.bool b)) (.bool b):=.c (.bool b)
theorem iA {T : TypeId} (hu : P.underlying T = some .bool) (a b : Bool) (w : World) : (Op.equal T (.bool a) (.bool b)).run P w = .ok (a == b) w:=by
 show (Op.equalIn (9999 + 1) T (.bool a) (.bool b)).run P w = _
 rw [Op.equalIn]
 simp [run_underlying hu]
theorem iB {T e : TypeId} (hu : P.underlying T = some (.slice e)) (w : World) : (Op.equal T (.slice none 0 0) (.slice none 0 0)).run P w = .ok true w:=by
 show (Op.equalIn (9999 + 1) T _ _).run P w = _
 rw [Op.equalIn]
 simp [run_underlying hu]
theorem iC {T e : TypeId} (hu : P.underlying T = some (.slice e)) (w : World) (a : Addr) (n c : Nat) : (Op.equal T (.slice (some a) n c) (.slice none 0 0)).run P w = .ok false w:=by
 show (Op.equalIn (9999 + 1) T _ _).run P w = _
 rw [Op.equalIn]
 simp [run_underlying hu]
theorem l7 (hT : cP P ti) (H : HC φ hp lo w0 w) {op : BinOp} {T : TypeId} {a b : AV} {u v : Value} {E : Eff} (x y : Operand) (h : rm ti hp op T a b = some E) (hc : E.cond) (ha : AVC φ hp w a u) (hb : AVC φ hp w b v) :
  Okv P φ hp lo w0 w E (do eqGuard op T x y u v;binOp op T u v):=by
 unfold rm at h
 split at h
 · rename_i k m k' n
   obtain rfl:=ce ha
   obtain rfl:=ce hb
   split at h
   · rename_i hk;subst hk
     have hg : ∀ op,(eqGuard op T x y (.int k m) (.int k n)).run P w = .ok () w:=by intro op;cases op <;> simp [eqGuard]
     cases op <;> first
      | (simp only [reduceCtorEq] at h; done)
      | (refine b8 H h ?_ (gl _ _); simp [hg, binOp, Op.intArith]; done)
      | (refine b8 H h ?_ (jD _); simp [hg, binOp, Op.intCmp]; done)
      | (have hc' : n ≠ 0 := by (injection h with h; subst h; exact hc)
         refine dQ H h ?_ (gl _ _);simp [hg,binOp,Op.intDiv,hc'];done)
      | (refine b8 H h ?_ (gl _ _); simp [hg, binOp, Op.intBits, nW, orI]; done)
      | (have hc' : ¬ n < 0 := by (injection h with h; subst h; have : 0 ≤ n := hc; omega)
         refine dQ H h ?_ (gl _ _);simp [hg,binOp,Op.shift,hc',t6,rl];done)
   · cases h
 · rename_i m n
   obtain rfl:=et ha
   obtain rfl:=et hb
   split at h
   · rename_i t ht
     obtain ⟨i,z,d,hok⟩:=hT T t ht
     split at h
     · rename_i hsh
       have hd:=hok.sh
       rw [hsh] at hd
       simp only [fg] at hd
       have hu:=hok.und
       rw [hd] at hu
       refine b8 H h ?_ (jD _)
       first|(simp [eqGuard,binOp,iA hu];done)|(simp [eqGuard,binOp,iB hu];done)|(simp [eqGuard,binOp,iC hu];done)
     · rename_i hsh
       have hd:=hok.sh
       rw [hsh] at hd
       simp only [fg] at hd
       have hu:=hok.und
       rw [hd] at hu
       refine b8 H h ?_ (jD _)
       first|(simp [eqGuard,binOp,iA hu];done)|(simp [eqGuard,binOp,iB hu];done)|(simp [eqGuard,binOp,iC hu];done)
     · cases h
   · cases h
 · obtain rfl:=fx ha
   obtain rfl:=fx hb
   split at h
   · rename_i t ht
     obtain ⟨i,z,d,hok⟩:=hT T t ht
     split at h
     all_goals first
      | (simp only [reduceCtorEq] at h; done)
      | (rename_i hsh
         have hd:=hok.sh
         rw [hsh] at hd
         simp only [fg] at hd
         have hu:=hok.und
         rw [hd] at hu
         refine b8 H h ?_ (jD _)
         first|(simp [eqGuard,binOp,iA hu];done)|(simp [eqGuard,binOp,iB hu];done)|(simp [eqGuard,binOp,iC hu];done)
         done)
   · cases h
 · obtain ⟨q,n,cp,rfl⟩:=sJ ha
   obtain rfl:=fx hb
   split at h
   · rename_i t ht
     obtain ⟨i,z,d,hok⟩:=hT T t ht
     split at h
     all_goals first
      | (simp only [reduceCtorEq] at h; done)
      | (rename_i hsh
         have hd:=hok.sh
         rw [hsh] at hd
         simp only [fg] at hd
         have hu:=hok.und
         rw [hd] at hu
         refine b8 H h ?_ (jD _)
         first|(simp [eqGuard,binOp,iA hu];done)|(simp [eqGuard,binOp,iB hu];done)|(simp [eqGuard,binOp,iC hu];done)
         done)
   · cases h
 · cases h
theorem nX (H : HC φ hp lo w0 w) {op : UnOp} {a : AV} {u : Value} {E : Eff} (h : unW op a = some E) (ha : AVC φ hp w a u) : Okv P φ hp lo w0 w E (Op.unary op u):=by
 unfold unW at h
 split at h
 · obtain rfl:=et ha
   split at h
   · exact b8 H h (by simp [Op.unary]) (jD _)
   · cases h
 · obtain rfl:=ce ha
   split at h
   · exact b8 H h (by simp [Op.unary,Op.intArith]) (gl _ _)
   · cases h
 · cases h
theorem lh (hT : cP P ti) (H : HC φ hp lo w0 w) {src dst : TypeId} {a : AV} {u : Value} {E : Eff} (hsrc : ∃ d,P.underlying src = some d) (h : ne ti dst a = some E) (ha : AVC φ hp w a u) : Okv P φ hp lo w0 w E (convert src dst u):=by
 unfold ne at h
 split at h
 · obtain rfl:=ce ha
   split at h
   · rename_i t ht
     obtain ⟨i,z,d,hok⟩:=hT _ t ht
     split at h
     · rename_i k hsh
       have hd:=hok.sh
       rw [hsh] at hd
       simp only [fg] at hd
       have hu:=hok.und
       rw [hd] at hu
       obtain ⟨d',hs⟩:=hsrc
       refine b8 H h ?_ (gl _ _)
       simp [convert,run_underlying hu,run_underlying hs,Conv.intToInt]
     · cases h
   · cases h
 · cases h
end
end Go.Proofs.Ytlodllmpndflcaa
namespace Go.Proofs.Ytlodllmpndflcaa
set_option linter.unusedVariables false
set_option linter.unusedSimpArgs false
open Go.RowKit
section
variable {P : Program} {ti : TI} {φ : Nat → Loc} {hp : Hp} {lo : Nat} {w0 w : World}
theorem eQ {l : List AV} {v : Value} (h : AVC φ hp w (.agg l) v) : ∃ vs : List Value,v = .agg vs.toArray ∧ vs.length = l.length ∧ ∀ i,i < l.length → AVC φ hp w (l.getD i .any) (vs.getD i undef):=by
 cases h with|agg hl h=>exact ⟨_,rfl,hl,h⟩
theorem nf {l : List AV} {v : Value} (h : AVC φ hp w (.tup l) v) : ∃ vs : List Value,v = .tuple vs.toArray ∧ vs.length = l.length ∧ ∀ i,i < l.length → AVC φ hp w (l.getD i .any) (vs.getD i undef):=by
 cases h with|tup hl h=>exact ⟨_,rfl,hl,h⟩
theorem l8 {wd : Nat} {f : Nat → C} {v : Value} (h : AVC φ hp w (.el wd f) v) : ∃ b o,∃ vs : Nat → Value,v = .pointer (some ⟨b,o,none⟩) ∧ (∀ j,j < wd → w.cell? ⟨b,o + j,none⟩ = some (vs j)) ∧ (∀ j,j < wd → Rd (Own φ hp) w (f j) (vs j)) ∧ ¬ Own φ hp b ∧ b < w.heap.size:=by
 cases h with|el h1 h2 h3 h4=>exact ⟨_,_,_,rfl,h1,h2,h3,h4⟩
theorem bI {α : Type} {l : List α} {i : Nat} {d : α} (h : i < l.length) : l.getD i d = l[i]:=by simp [List.getD_eq_getElem?_getD,h]
theorem getD_some {α : Type} {l : List α} {i : Nat} {d a : α} (h : l[i]? = some a) : l.getD i d = a:=by simp [List.getD_eq_getElem?_getD,h]
theorem fi {α : Type} (l : Array α) (i : Nat) (d : α) : l.getD i d = l.toList.getD i d:=by simp [List.getD_eq_getElem?_getD]
theorem ci {α : Type} {l : List α} {o n i : Nat} {d : α} (h : i < n) : ((l.drop o).take n).getD i d = l.getD (o + i) d:=by
 simp [List.getD_eq_getElem?_getD,h]
theorem fA {T : TypeId} {w : World} {b o : Nat} {v : Value} (ha : (isAgg T).run P w = .ok false w) (hc : w.cell? ⟨b,o,none⟩ = some v) : (Instr.loadAt T (.pointer (some ⟨b,o,none⟩))).run P w = .ok v w:=by
 simp [Instr.loadAt,Instr.sureAddr,loadVar,ha,load,Sem.run,hc]
theorem fB {T : TypeId} {t : TInfo} {i : TypeInfo} {z : Value} {d : TypeDesc} (hok : TOk P T t i z d) (hs : t.sh.isStruct = true) {w : World} {b o : Nat} (cs : List Value) (hl : cs.length = t.size) (hc : ∀ j,j < cs.length → w.cell? ⟨b,o + j,none⟩ = some (cs.getD j undef)) :
  (Instr.loadAt T (.pointer (some ⟨b,o,none⟩))).run P w = .ok (.agg cs.toArray) w:=by
 refine run_loadAt_mid w b o T cs d (fun j v hv=>?_) hok.und ?_ (by rw [hok.info];simp [hok.size,hl])
 · have hj : j < cs.length:=by
    rcases Nat.lt_or_ge j cs.length with h|h
    · exact h
    · rw [List.getElem?_eq_none h] at hv;cases hv
   rw [hc j hj,getD_some hv]
 · have h:=hok.sh
   revert h hs
   cases t.sh with
   | struct fs => rintro _ ⟨F, rfl, _⟩; rfl
   | _ => intro hs; cases hs
theorem eu {ν : Nat} {l : List AV} (H : HC φ hp lo w0 w) (he : hp ν = some (.box l)) {g n cp wd : Nat} (hl : φ ν = .at g 0 n cp wd) :
  ∃ cur T,w.heap[g]? = some (.cells cur T (0,0)) ∧ cur.size = l.length ∧ ∀ i,i < l.length → AVC φ hp w (l.getD i .any) (cur.getD i undef):=by
 obtain ⟨g',n',cp',wd',cur,T,h0,h1,h2,h3⟩:=H.ent ν _ he
 rw [hl] at h0
 injection h0 with h0
 subst h0
 exact ⟨cur,T,h1,h2,h3⟩
theorem jE {ν : Nat} {T : TypeId} {nn : Fl} {c : C} (H : HC φ hp lo w0 w) (he : hp ν = some (.arr T nn c)) {g o n cp wd : Nat} (hl : φ ν = .at g o n cp wd) :
  ∃ V cur,c.view = some V ∧ c.isNN = false ∧ n = V.len ∧ wd = V.wd ∧ w.heap[g]? = some (.cells cur T (0,0)) ∧ V.len ≤ cp ∧ cp ≤ 9223372036854775807 ∧ o + cp * V.wd ≤ cur.size ∧ (nn.hd = true → o = 0 ∧ cp * V.wd = cur.size) ∧
    ∀ i,i < V.len → ∀ j,j < V.wd → ∃ v,cur[o + (i * V.wd + j)]? = some v ∧ Rd (Own φ hp) w (V.at' i j) v:=by
 obtain ⟨V,hv,hn,⟨h0,_⟩|⟨g',o',cp',cur,h0,h1,h2,h3,h4,hh,h5⟩⟩:=H.ent ν _ he
 · rw [hl] at h0;cases h0
 · rw [hl] at h0
   injection h0 with e1 e2 e3 e4 e5
   subst e1 e2 e3 e4 e5
   exact ⟨V,cur,hv,hn,rfl,rfl,h1,h2,h3,h4,hh,h5⟩
theorem eS {w : World} {g o : Nat} {cur : Array Value} {T : TypeId} {v : Value} (h : w.heap[g]? = some (.cells cur T (0,0))) (hc : cur[o]? = some v) : w.cell? ⟨g,o,none⟩ = some v:=by
 simp [World.cell?,h,hc]
theorem iU {n i : Nat} {f : Nat → AV} (h : i < n) : ((List.range n).map f).getD i .any = f i:=by
 simp [List.getD_eq_getElem?_getD,h]
theorem li (hT : cP P ti) (H : HC φ hp lo w0 w) {T : TypeId} {a : AV} {u : Value} {E : Eff} (h : ig ti hp T a = some E) (hc : E.cond) (ha : AVC φ hp w a u) : Okv P φ hp lo w0 w E (Instr.loadAt T u):=by
 unfold ig at h
 split at h
 · rename_i ν off
   split at h
   · rename_i l t he ht
     obtain ⟨i,z,d,hok⟩:=hT T t ht
     obtain ⟨g,n,cp,wd,hl,rfl⟩:=fW ha he
     obtain ⟨cur,T',h1,h2,h3⟩:=eu H he hl
     have hcell : ∀ j,j < l.length → w.cell? ⟨g,j,none⟩ = some (cur.toList.getD j undef):=fun j hj=>eS h1 (by
      rw [← Array.getElem?_toList,bI (by simp;omega)];simp)
     split at h
     · rename_i hs
       split at h
       · rename_i hsz
         have hlen : ((cur.toList.drop off).take t.size).length = t.size:=by simp;omega
         refine b8 H h (fB hok hs _ hlen fun j hj=>?_) (.agg (by rw [hlen];simp;omega) fun j hj=>?_)
         · rw [hlen] at hj;rw [ci hj];exact hcell (off + j) (by omega)
         · have hj' : j < t.size:=Nat.lt_of_lt_of_le hj (List.length_take_le _ _)
           rw [ci hj',ci hj',← fi cur];exact h3 (off + j) (by omega)
       · cases h
     · rename_i hs
       split at h
       · rename_i a' hq
         have hoff : off < l.length:=by
          rcases Nat.lt_or_ge off l.length with h|h
          · exact h
          · rw [List.getElem?_eq_none h] at hq;cases hq
         refine b8 H h (fA (by rw [fy hok];simp [hs]) (hcell off hoff)) ?_
         have:=h3 off hoff
         rw [getD_some hq,fi] at this
         exact this
       · cases h
   · cases h
 · rename_i wd f
   split at h
   · rename_i t ht
     obtain ⟨i,z,d,hok⟩:=hT T t ht
     obtain ⟨b,o,vs,rfl,h1,h2,h3,h4⟩:=l8 ha
     split at h
     · rename_i hs
       split at h
       · rename_i hsz
         refine b8 H h (fB hok hs ((List.range t.size).map vs) (by simp) fun j hj=>?_) (.agg (by simp) fun j hj=>?_)
         · have hj' : j < t.size:=by simpa using hj
           rw [h1 j (by omega)];simp [List.getD_eq_getElem?_getD,hj']
         · have hj' : j < t.size:=by simpa using hj
           rw [iU hj']
           have : ((List.range t.size).map vs).getD j undef = vs j:=by simp [List.getD_eq_getElem?_getD,hj']
           rw [this]
           exact .c (h2 j (by omega))
       · cases h
     · rename_i hs
       split at h
       · rename_i hwd
         exact b8 H h (fA (by rw [fy hok];simp [hs]) (h1 0 hwd)) (.c (h2 0 hwd))
       · cases h
   · cases h
 · rename_i ν i j
   split at h
   · rename_i T' nn c t he ht
     obtain ⟨i',z,d,hok⟩:=hT T t ht
     obtain ⟨g,o,n,cp,wd,hl,rfl⟩:=l6 ha he
     obtain ⟨V,cur,hv,hnn,rfl,rfl,h1,h2,h3,h4,hh,h5⟩:=jE H he hl
     rw [hv] at h
     simp only at h
     split at h
     · rename_i hs
       have hc' : i < V.len ∧ j + t.size ≤ V.wd:=by injection h with h;subst h;exact hc
       refine dQ H h (fB hok hs ((List.range t.size).map fun q=>(cur[o + (i * V.wd + (j + q))]?).getD undef) (by simp) fun q hq=>?_) (.agg (by simp) fun q hq=>?_)
       · have hq' : q < t.size:=by simpa using hq
         obtain ⟨v,h6,h7⟩:=h5 i hc'.1 (j + q) (by omega)
         rw [show o + (i * V.wd + j) + q = o + (i * V.wd + (j + q)) by omega,eS h1 h6]
         simp [List.getD_eq_getElem?_getD,hq',h6]
       · have hq' : q < t.size:=by simpa using hq
         obtain ⟨v,h6,h7⟩:=h5 i hc'.1 (j + q) (by omega)
         rw [iU hq']
         have : ((List.range t.size).map fun q=>(cur[o + (i * V.wd + (j + q))]?).getD undef).getD q undef = v:=by simp [List.getD_eq_getElem?_getD,hq',h6]
         rw [this]
         exact .c h7
     · rename_i hs
       have hc' : i < V.len ∧ j < V.wd:=by injection h with h;subst h;exact hc
       obtain ⟨v,h6,h7⟩:=h5 i hc'.1 j hc'.2
       exact dQ H h (fA (by rw [fy hok];simp [hs]) (eS h1 h6)) (.c h7)
   · cases h
 · cases h
theorem gP {c : C} {V : View} {n : Nat} (hv : c.view = some V) (h : dP c = some n) : n = V.len:=by
 cases c <;> first
  | (simp only [C.view, reduceCtorEq] at hv; done)
  | (simp only [dP, hv, Option.some.injEq] at h; exact h.symm)
theorem pt {O : Nat → Prop} {c : C} {v : Value} {n : Nat} (h : Rd O w c v) (hl : dP c = some n) : ∃ sa cp,v = .slice sa n cp:=by
 cases h with
 | int => simp [dP, C.view] at hl
 | bool => simp [dP, C.view] at hl
 | nul => simp [dP] at hl; subst hl; exact ⟨_, _, rfl⟩
 | sl hv => have := gP hv hl; subst this; exact ⟨_, _, rfl⟩
theorem sK (H : HC φ hp lo w0 w) {a : AV} {c : C} {v : Value} (h : slC hp a = some c) (ha : AVC φ hp w a v) : Rd (fun _=>False) w c v:=by
 have : ∃ fz,toC hp a = some (c,fz):=by
  unfold slC at h
  split at h
  · injection h with h;subst h;exact ⟨[],rfl⟩
  · rename_i ν
    split at h
    · rename_i T nn d he
      injection h with h;subst h
      exact ⟨[ν],by simp [toC,he]⟩
    · cases h
  · cases h
 obtain ⟨fz,hf⟩:=this
 exact l5 H hf ha (fun b _ _=>⟨rfl,fun h=>h⟩) (Nat.le_refl _)
theorem l9 (H : HC φ hp lo w0 w) {T ty e : TypeId} {a : AV} {u : Value} {E : Eff} (hu : P.underlying T = some (.slice e)) (h : l4 hp a = some E) (ha : AVC φ hp w a u) : Okv P φ hp lo w0 w E (Builtin.len_ #[T] ty #[u]):=by
 unfold l4 at h
 split at h
 · rename_i c hcx
   split at h
   · rename_i n hl
     obtain ⟨sa,cp,rfl⟩:=pt (sK H hcx ha) hl
     refine b8 H h ?_ (gl _ _)
     simp [Builtin.len_,run_underlying hu,goInt]
   · cases h
 · cases h
theorem ma (H : HC φ hp lo w0 w) {ats : Array TypeId} {ty : TypeId} {l : List AV} {us : List Value} {E : Eff} (h : rn l = some E) (hl : us.length = l.length) (ha : ∀ i,i < l.length → AVC φ hp w (l.getD i .any) (us.getD i undef)) : Okv P φ hp lo w0 w E (Builtin.max_ ats ty us.toArray):=by
 unfold rn at h
 split at h
 · rename_i k a k' b
   split at h
   · rename_i hk;subst hk
     match us,hl with
     | [u, v], _ =>
       obtain rfl:=ce (ha 0 (by simp))
       obtain rfl:=ce (ha 1 (by simp))
       refine b8 H h ?_ (gl _ _)
       simp [Builtin.max_,Builtin.max2]
   · cases h
 · cases h
theorem mb (H : HC φ hp lo w0 w) {ats : Array TypeId} {ty : TypeId} {l : List AV} {us : List Value} {E : Eff} (h : ro l = some E) (hl : us.length = l.length) (ha : ∀ i,i < l.length → AVC φ hp w (l.getD i .any) (us.getD i undef)) : Okv P φ hp lo w0 w E (Builtin.min_ ats ty us.toArray):=by
 unfold ro at h
 split at h
 · rename_i k a k' b
   split at h
   · rename_i hk;subst hk
     match us,hl with
     | [u, v], _ =>
       obtain rfl:=ce (ha 0 (by simp))
       obtain rfl:=ce (ha 1 (by simp))
       refine b8 H h ?_ (gl _ _)
       simp [Builtin.min_,Builtin.min2]
   · cases h
 · cases h
theorem mc (H : HC φ hp lo w0 w) {a : AV} {u : Value} {E : Eff} (h : lf hp a = some E) (ha : AVC φ hp w a u) : Out φ hp lo w0 w E.up E.nw E.val u w ∧ ∃ b,u = .pointer (some b):=by
 unfold lf at h
 split at h
 · split at h
   · rename_i l he
     injection h with h;subst h
     obtain ⟨g,n,cp,wd,hl,rfl⟩:=fW ha he
     exact ⟨dp H ha,_,rfl⟩
   · cases h
 · injection h with h;subst h
   obtain ⟨b,o,vs,rfl,_⟩:=l8 ha
   exact ⟨dp H ha,_,rfl⟩
 · split at h
   · rename_i T nn c he
     injection h with h;subst h
     obtain ⟨g,o,n,cp,wd,hl,rfl⟩:=l6 ha he
     exact ⟨dp H ha,_,rfl⟩
   · cases h
 · cases h
theorem fj (g o k : Nat) : (⟨g,o,none⟩ : Addr).add k = ⟨g,o + k,none⟩:=Addr.add_mid g o k
theorem gQ (hT : cP P ti) (H : HC φ hp lo w0 w) {T : TypeId} {f : Nat} {a : AV} {u : Value} {E : Eff} (h : cK ti hp T a f = some E) (ha : AVC φ hp w a u) : Okv P φ hp lo w0 w E (Instr.fieldAt T u f):=by
 unfold cK at h
 split at h
 · rename_i t ht
   obtain ⟨i,z,d,hok⟩:=hT T t ht
   split at h
   · rename_i fs hsh
     have hd:=hok.sh
     rw [hsh] at hd
     obtain ⟨F,rfl,hF⟩:=hd
     split at h
     · rename_i o T' hf
       obtain ⟨fd,hf1,hf2,hf3⟩:=hF f o T' hf
       split at h
       · rename_i t' ht'
         obtain ⟨i',z',d',hok'⟩:=hT T' t' ht'
         split at h
         · rename_i hpos
           have hi':=hok'.info
           have hne : ¬ i'.size = 0:=by rw [hok'.size];omega
           have run : ∀ b q,(Instr.fieldAt T (.pointer (some ⟨b,q,none⟩)) f).run P w = .ok (.pointer (some ⟨b,q + o,none⟩)) w:=by
            intro b q
            simp [Instr.fieldAt,run_underlying hok.und,hf1,Instr.sureAddr,fieldPlace,sizeOf,typeInfo,hf3,hi',hne,hf2,fj]
           split at h
           · rename_i ν off
             split at h
             · rename_i l he
               cases ha with
               | ad h1 h2 h3 => exact b8 H h (run _ _) (.ad h1 h2 h3)
               | add h2 hk v hv => rw [he] at h2; injection h2 with h2; subst h2; simp [Ent.kind] at hk
             · cases h
           · rename_i wd g
             split at h
             · rename_i ho
               obtain ⟨b,q,vs,rfl,h1,h2,h3,h4⟩:=l8 ha
               exact b8 H h (run _ _) (.el (vs:=fun j=>vs (o + j)) (fun j hj=>by rw [Nat.add_assoc];exact h1 _ (by omega)) (fun j hj=>h2 _ (by omega)) h3 h4)
             · cases h
           · rename_i ν q j
             split at h
             · rename_i T0 nn c he
               cases ha with
               | @ea _ _ _ g o' n cp wd e h1 h2 h3 =>
                 refine b8 H h (run _ _) ?_
                 rw [show o' + (q * wd + j) + o = o' + (q * wd + (j + o)) by omega]
                 exact .ea h1 h2 h3
               | ead h2 hk v hv => rw [he] at h2; injection h2 with h2; subst h2; simp [Ent.kind] at hk
             · cases h
           · cases h
         · cases h
       · cases h
     · cases h
   · cases h
 · cases h
theorem ko (hT : cP P ti) (H : HC φ hp lo w0 w) {T : TypeId} {f : Nat} {a : AV} {u : Value} {E : Eff} (h : kk ti T a f = some E) (ha : AVC φ hp w a u) : Okv P φ hp lo w0 w E (Instr.field T u f):=by
 unfold kk at h
 split at h
 · rename_i t ht
   obtain ⟨i,z,d,hok⟩:=hT T t ht
   split at h
   · rename_i fs hsh
     have hd:=hok.sh
     rw [hsh] at hd
     obtain ⟨F,rfl,hF⟩:=hd
     split at h
     · rename_i o T' hf
       obtain ⟨fd,hf1,hf2,hf3⟩:=hF f o T' hf
       split at h
       · rename_i l t' ht'
         obtain ⟨i',z',d',hok'⟩:=hT T' t' ht'
         obtain ⟨vs,rfl,hl,hvs⟩:=eQ ha
         split at h
         · rename_i hs
           refine b8 H h (v:=.agg ((vs.drop o).take t'.size).toArray) ?_ (.agg (by simp [hl]) fun j hj=>?_)
           · have:=fy hok' w
             rw [hs] at this
             simp [Instr.field,run_underlying hok.und,hf1,part,hf3,this,sizeOf,typeInfo,hok'.info,hok'.size,hf2,asAgg]
           · have hj' : j < t'.size:=Nat.lt_of_lt_of_le hj (List.length_take_le _ _)
             rw [ci hj',ci hj']
             refine hvs _ ?_
             simp at hj;omega
         · rename_i hs
           split at h
           · rename_i a' hq
             have ho : o < l.length:=by
              rcases Nat.lt_or_ge o l.length with h|h
              · exact h
              · rw [List.getElem?_eq_none h] at hq;cases hq
             have:=hvs o ho
             rw [getD_some hq,bI (by omega)] at this
             refine b8 H h ?_ this
             have hr:=fy hok' w
             simp only [hs] at hr
             have hg : vs[o]? = some vs[o]:=List.getElem?_eq_getElem (by omega)
             simp [Instr.field,run_underlying hok.und,hf1,part,hf3,hr,hf2,asAgg,hg]
           · cases h
       · cases h
     · cases h
   · cases h
 · cases h
theorem kp (hT : cP P ti) (H : HC φ hp lo w0 w) {T : TypeId} {a b : AV} {u v : Value} {E : Eff} (h : fU ti hp T a b = some E) (hc : E.cond) (ha : AVC φ hp w a u) (hb : AVC φ hp w b v) : Okv P φ hp lo w0 w E (Instr.indexAt T u v):=by
 unfold fU at h
 split at h
 · rename_i t k i ht
   obtain ⟨_,_,_,hok⟩:=hT T t ht
   obtain rfl:=ce hb
   split at h
   · rename_i e hsh
     have hd:=hok.sh
     rw [hsh] at hd
     simp only [fg] at hd
     have hu:=hok.und
     rw [hd] at hu
     split at h
     · rename_i te hte
       obtain ⟨ie,ze,de,hoe⟩:=hT e te hte
       have run : ∀ g o n cp,(0 ≤ i ∧ i < (n : Nat)) → (Instr.indexAt T (.slice (some ⟨g,o,none⟩) n cp) (.int k i)).run P w = .ok (.pointer (some ⟨g,o + i.toNat * te.size,none⟩)) w:=by
        intro g o n cp hi
        simp [Instr.indexAt,asIntOf,run_underlying hu,hi,sizeOf,typeInfo,hoe.info,hoe.size,fj]
       split at h
       · rename_i c
         split at h
         · rename_i V hv
           split at h
           · rename_i hwd
             have hc' : 0 ≤ i ∧ i < V.len:=by injection h with h;subst h;exact hc
             cases cJ ha with
             | int => cases hv
             | bool => cases hv
             | nul => cases hv
             | @sl _ V' sa cp vs hv' hn h1 h2 h0 hs cell rec =>
               rw [hv] at hv'
               injection hv' with hv'
               subst hv'
               cases sa with
               | none => have := (h0 rfl).1; omega
               | some ad =>
                 obtain ⟨b,o,s⟩:=ad
                 obtain ⟨hs1,hs2,hs3⟩:=hs _ rfl (by omega)
                 simp only at hs1 hs2 hs3
                 subst hs1
                 refine dQ H h (run _ _ _ _ hc') (.el (vs:=vs i.toNat) (fun j hj=>?_) (fun j hj=>?_) hs2 hs3)
                 · rw [← hwd,Nat.add_assoc];exact cell _ rfl _ (by omega) j hj
                 · exact rec _ (by omega) j hj
           · cases h
         · cases h
       · rename_i ν
         split at h
         · rename_i T' nn c he
           split at h
           · rename_i V hv
             split at h
             · rename_i hwd
               have hc' : 0 ≤ i ∧ i < V.len:=by injection h with h;subst h;exact hc
               obtain rfl:=fh ha he
               obtain ⟨V',hv',_,⟨h0,h1,_⟩|⟨g,o,cp,cur,h0,_⟩⟩:=H.ent ν _ he
               · rw [hv] at hv';injection hv' with hv';subst hv';omega
               · rw [hv] at hv';injection hv' with hv';subst hv'
                 rw [h0]
                 refine dQ H h (run _ _ _ _ hc') ?_
                 have:=AVC.ea (φ:=φ) (hp:=hp) (w:=w) (i:=i.toNat) (j:=0) he rfl h0
                 rw [hwd,Nat.add_zero] at this
                 exact this
             · cases h
           · cases h
         · cases h
       · cases h
     · cases h
   · cases h
 · cases h
end
end Go.Proofs.Ytlodllmpndflcaa
namespace Go.Proofs.Ytlodllmpndflcaa
set_option linter.unusedVariables false
set_option linter.unusedSimpArgs false
open Go.RowKit
theorem nY {v : Value} (h : v.oneCell' = true) : v.cells = #[v]:=by cases v <;> first|rfl|(simp [Value.oneCell'] at h)
section
variable {φ : Nat → Loc} {hp : Hp} {lo : Nat} {w0 w : World}
theorem ng {a : AV} {v : Value} (h : AVC φ hp w a v) (ha : a.one = true) : v.oneCell' = true:=by
 cases h with
 | any => simp [AV.one] at ha
 | c h => exact h.one
 | k => exact ha
 | sl => exact Loc.val_one _
 | sld _ _ hv => assumption
 | ad => rfl
 | add => assumption
 | ea => rfl
 | ead => assumption
 | el => rfl
 | agg => simp [AV.one] at ha
 | tup => simp [AV.one] at ha
 | fn => rfl
theorem ew {a : AV} {v : Value} {cs : List AV} (h : AVC φ hp w a v) (hc : a.cells = some cs) :
  v.cells.size = cs.length ∧ (∀ j,j < cs.length → AVC φ hp w (cs.getD j .any) (v.cells.getD j undef)) ∧ (∀ u,u ∈ v.cells.toList → u.oneCell' = true):=by
 have base : ∀ a : AV,a.one = true → AVC φ hp w a v → cs = [a] → v.cells.size = cs.length ∧ (∀ j,j < cs.length → AVC φ hp w (cs.getD j .any) (v.cells.getD j undef)) ∧ (∀ u,u ∈ v.cells.toList → u.oneCell' = true):=by
  intro a ha h e
  subst e
  have h1:=ng h ha
  rw [nY h1]
  refine ⟨rfl,fun j hj=>?_,fun u hu=>?_⟩
  · have : j = 0:=by simp at hj;omega
    subst this;exact h
  · simp at hu;subst hu;exact h1
 cases a with
 | agg l =>
   simp only [AV.cells] at hc
   split at hc
   · rename_i hall
     injection hc with hc;subst hc
     obtain ⟨vs,rfl,hl,hvs⟩:=eQ h
     refine ⟨by simp [Value.cells,hl],fun j hj=>?_,fun u hu=>?_⟩
     · rw [fi];exact hvs j hj
     · simp only [Value.cells] at hu
       obtain ⟨j,hj,e⟩:=List.getElem_of_mem hu
       have hj' : j < l.length:=by omega
       have:=hvs j hj'
       rw [bI hj',bI hj,e] at this
       exact ng this (List.all_eq_true.1 hall _ (List.getElem_mem hj'))
   · cases hc
 | any => simp [AV.cells, AV.one] at hc
 | tup l => simp [AV.cells, AV.one] at hc
 | k u =>
   simp only [AV.cells] at hc
   split at hc
   · rename_i ho;injection hc with hc;exact base _ ho h hc.symm
   · cases hc
 | c c => simp only [AV.cells, AV.one, ↓reduceIte, Option.some.injEq] at hc; exact base _ rfl h hc.symm
 | sl ν => simp only [AV.cells, AV.one, ↓reduceIte, Option.some.injEq] at hc; exact base _ rfl h hc.symm
 | ad ν o => simp only [AV.cells, AV.one, ↓reduceIte, Option.some.injEq] at hc; exact base _ rfl h hc.symm
 | ea ν i j => simp only [AV.cells, AV.one, ↓reduceIte, Option.some.injEq] at hc; exact base _ rfl h hc.symm
 | el wd f => simp only [AV.cells, AV.one, ↓reduceIte, Option.some.injEq] at hc; exact base _ rfl h hc.symm
 | fn f l => simp only [AV.cells, AV.one, ↓reduceIte, Option.some.injEq] at hc; exact base _ rfl h hc.symm
theorem fC (l : List AV) (o : Nat) (cs : List AV) : (ff l o cs).length = l.length:=by
 induction cs generalizing l o with
 | nil => rfl
 | cons a cs ih => rw [ff, ih]; simp
theorem iV (l : List AV) (o : Nat) (cs : List AV) (k : Nat) (h : o + cs.length ≤ l.length) : (ff l o cs).getD k .any = if o ≤ k ∧ k < o + cs.length then cs.getD (k - o) .any else l.getD k .any:=by
 induction cs generalizing l o with
 | nil => simp only [ff, List.length_nil, Nat.add_zero]; rw [if_neg (by omega)]
 | cons a cs ih =>
   simp only [List.length_cons] at h
   rw [ff,ih _ _ (by simp;omega)]
   by_cases h1 : o + 1 ≤ k ∧ k < o + 1 + cs.length
   · rw [if_pos h1,if_pos (by simp;omega),show k - o = (k - (o + 1)) + 1 by omega];simp
   · rw [if_neg h1]
     by_cases h2 : k = o
     · subst h2
       rw [if_pos (by simp)]
       simp [List.getD_eq_getElem?_getD,show k < l.length by omega]
     · rw [if_neg (by simp;omega)]
       simp only [List.getD_eq_getElem?_getD,List.getElem?_set_ne (Ne.symm h2)]
def lay (cs : Array Value) (off : Nat) : List (Value × Nat) → Array Value:=List.foldl (fun cs (p : Value × Nat)=>cs.setIfInBounds (off + p.2) p.1) cs
theorem lj (off : Nat) : ∀ (vs : List Value) (s : Nat) (cs : Array Value),off + s + vs.length ≤ cs.size →
  (lay cs off (vs.zipIdx s)).size = cs.size ∧ ∀ k,(lay cs off (vs.zipIdx s)).getD k undef = if off + s ≤ k ∧ k < off + s + vs.length then vs.getD (k - (off + s)) undef else cs.getD k undef:=by
 intro vs
 induction vs with
 | nil => intro s cs _; exact ⟨rfl, fun k => by simp only [List.length_nil, Nat.add_zero]; rw [if_neg (by omega)]; rfl⟩
 | cons v vs ih =>
   intro s cs h
   simp only [List.length_cons] at h
   have:=ih (s + 1) (cs.setIfInBounds (off + s) v) (by simp;omega)
   have e : lay cs off ((v :: vs).zipIdx s) = lay (cs.setIfInBounds (off + s) v) off (vs.zipIdx (s + 1)):=rfl
   rw [e]
   refine ⟨by rw [this.1];simp,fun k=>?_⟩
   rw [this.2 k]
   by_cases h1 : off + (s + 1) ≤ k ∧ k < off + (s + 1) + vs.length
   · rw [if_pos h1,if_pos (by simp;omega),show k - (off + s) = (k - (off + (s + 1))) + 1 by omega];simp
   · rw [if_neg h1]
     by_cases h2 : k = off + s
     · subst h2
       rw [if_pos (by simp)]
       simp [Array.getD_eq_getD_getElem?,show off + s < cs.size by omega]
     · rw [if_neg (by simp;omega)]
       simp [Array.getD_eq_getD_getElem?,Array.getElem?_setIfInBounds_ne (Ne.symm h2)]
theorem lk {P : Program} {ti : TI} (hT : cP P ti) {fs : List (Nat × TypeId)} {pl : List (Nat × Nat)} (hpl : ∀ (i o : Nat) (T' : TypeId),fs[i]? = some (o,T') → ∃ i',P.info? T' = some i' ∧ pl[i]? = some (o,i'.size)) :
  ∀ (ps : List (Nat × AV)) (qs : List (Nat × Value)) (l l' : List AV) (cs : Array Value),jB ti fs l ps = some l' → qs.length = ps.length → (∀ j,j < ps.length → (qs.getD j (0,undef)).1 = (ps.getD j (0,.any)).1 ∧ AVC φ hp w (ps.getD j (0,.any)).2 (qs.getD j (0,undef)).2) →
   cs.size = l.length → (∀ j,j < l.length → AVC φ hp w (l.getD j .any) (cs.getD j undef)) →
   ∃ cs',Instr.fill (fun i=>pl[i]?) cs qs = some cs' ∧ cs'.size = l'.length ∧ ∀ j,j < l'.length → AVC φ hp w (l'.getD j .any) (cs'.getD j undef):=by
 intro ps
 induction ps with
 | nil =>
   intro qs l l' cs h hl _ h1 h2
   have : qs = []:=List.eq_nil_of_length_eq_zero hl
   subst this
   simp only [jB,Option.some.injEq] at h;subst h
   exact ⟨cs,rfl,h1,h2⟩
 | cons p ps ih =>
   intro qs l l' cs h hl hq h1 h2
   obtain ⟨i,a⟩:=p
   match qs,hl with
   | (i', v) :: qs, hl =>
     obtain ⟨e,hv⟩:=hq 0 (by simp)
     simp only [List.getD_cons_zero] at e hv
     subst e
     simp only [jB] at h
     split at h
     · rename_i off T hf
       obtain ⟨it,hi1,hi2⟩:=hpl i' off T hf
       split at h
       · rename_i t ds ht hds
         obtain ⟨i2,z,d,hok⟩:=hT T t ht
         obtain ⟨c1,c2,c3⟩:=ew hv hds
         split at h
         · rename_i hcond
           have hsz : it.size = t.size:=by have:=hok.info;rw [hi1] at this;injection this with this;subst this;exact hok.size
           have hlay:=lj off v.cells.toList 0 cs (by simp;omega)
           have hfit : ¬ (v.cells.size ≠ it.size ∨ off + v.cells.size > cs.size):=by
            intro hh;rcases hh with hh|hh <;> omega
           obtain ⟨cs',g1,g2,g3⟩:=ih qs (ff l off ds) l' (lay cs off (v.cells.toList.zipIdx 0)) h (by simpa using hl) (fun j hj=>by have:=hq (j + 1) (by simp;omega);simpa using this) (by rw [hlay.1,fC];exact h1) (fun j hj=>by
            rw [fC] at hj
            rw [iV _ _ _ _ hcond.2,hlay.2 j]
            simp only [Nat.add_zero,Array.length_toList]
            by_cases hr : off ≤ j ∧ j < off + ds.length
            · rw [if_pos hr,if_pos (by omega)]
              have:=c2 (j - off) (by omega)
              rwa [fi] at this
            · rw [if_neg hr,if_neg (by omega)]
              exact h2 j hj)
           refine ⟨cs',?_,g2,g3⟩
           simp only [Instr.fill,hi2]
           rw [if_neg (by simpa using hfit)]
           rw [← g1]
           congr 1
           rw [← Array.foldl_toList]
           simp only [lay]
           congr 1
           simp
         · cases h
       · cases h
     · cases h
end
section
variable {P : Program} {ti : TI} {φ : Nat → Loc} {hp : Hp} {lo : Nat} {w0 w : World}
theorem kq (hT : cP P ti) (H : HC φ hp lo w0 w) {T : TypeId} {ps : List (Nat × AV)} {qs : Array (Nat × Value)} {E : Eff} (h : km ti T ps = some E) (hl : qs.toList.length = ps.length)
  (hq : ∀ j,j < ps.length → (qs.toList.getD j (0,undef)).1 = (ps.getD j (0,.any)).1 ∧ AVC φ hp w (ps.getD j (0,.any)).2 (qs.toList.getD j (0,undef)).2) : Okv P φ hp lo w0 w E (Instr.build T qs):=by
 unfold km at h
 split at h
 · rename_i t ht
   obtain ⟨i,z,d,hok⟩:=hT T t ht
   split at h
   · rename_i fs hsh
     have hd:=hok.sh
     rw [hsh] at hd
     obtain ⟨F,hF,_⟩:=hd
     obtain ⟨pl,hp1,hp2⟩:=hok.pl F fs hsh hF
     split at h
     · rename_i l' hf
       obtain ⟨cs',g1,g2,g3⟩:=lk (φ:=φ) (hp:=hp) (w:=w) hT hp2 ps qs.toList t.zero l' z.cells hf hl hq hok.zlen (fun j hj=>hok.zval j hj φ hp w)
       have hb : P.built T qs.toList = some cs':=by
        have hu:=hok.und
        rw [hF] at hu
        unfold Program.built
        simp only [hok.info,hu,hok.zero,hp1]
        simpa using g1
       refine b8 H h (run_build w T qs cs' hb) ?_
       have:=AVC.agg (φ:=φ) (hp:=hp) (w:=w) (l:=l') (vs:=cs'.toList) (by simpa using g2) (fun j hj=>by rw [← fi cs'];exact g3 j hj)
       simpa using this
     · cases h
   · cases h
 · cases h
theorem eT (H : HC φ hp lo w0 w) {fz : List Nat} (hfz : ∀ x,x ∈ fz → ∃ e,hp x = some e ∧ e.kind = 1) {e : Ent} {val : List Nat → AV} {v : Value} {cur : Array Value} {T : TypeId} {w1 : World} (hw1 : w1.heap = w.heap ∧ w1.os = w.os ∧ w1.tape = w.tape ∧ w1.output = w.output) (loc : Loc) (hloc : loc.blk = some w.heap.size)
  (hent : ∀ ν,hp ν = none → Evo φ hp w (upd φ ν loc) (upd (aY hp (b7 fz)) ν (some e)) (w1.alloc (.cells cur T)) → e9 (upd φ ν loc) (upd (aY hp (b7 fz)) ν (some e)) (w1.alloc (.cells cur T)) loc e)
  (hval : ∀ ν,AVC (upd φ ν loc) (upd (aY hp (b7 fz)) ν (some e)) (w1.alloc (.cells cur T)) (val [ν]) v) : Out φ hp lo w0 w (b7 fz) [e] val v (w1.alloc (.cells cur T)):=by
 intro ν hl hn hf
 match ν,hl with
 | [ν], _ =>
   have hν:=hf ν (by simp)
   have hb : Below lo w0 (w1.alloc (.cells cur T)):=by
    refine ⟨?_,?_,?_,?_,fun k hk=>?_⟩
    · exact hw1.2.1.trans H.fr.os
    · exact hw1.2.2.1.trans H.fr.tape
    · exact hw1.2.2.2.trans H.fr.output
    · have:=H.fr.size;simp only [World.size_alloc,hw1.1];omega
    · rw [Below.heap_alloc _ _ _ (by rw [hw1.1];have:=H.l0;omega),hw1.1];exact H.fr.block k hk
   obtain ⟨h1,h2⟩:=H.put hν hfz (loc:=loc) (e:=e) hb (by simp [hw1.1]) (fun g hg=>.inl (by rw [hloc] at hg;injection hg with hg;omega)) (fun b hb hne=>by rw [Below.heap_alloc _ _ _ (by rw [hw1.1];exact hb),hw1.1]) (hent ν hν)
   exact ⟨_,h1,h2,hval ν⟩
theorem fD (w : World) : w.heap = w.heap ∧ w.os = w.os ∧ w.tape = w.tape ∧ w.output = w.output:=⟨rfl,rfl,rfl,rfl⟩
theorem nh {φ' : Nat → Loc} {hp' : Hp} {w' : World} {l : List AV} {cur : Array Value} {T : TypeId} (hl : cur.size = l.length) (h : ∀ i,i < l.length → AVC φ' hp' (w'.alloc (.cells cur T)) (l.getD i .any) (cur.getD i undef)) (B : Nat) (hB : B = w'.heap.size) :
  e9 φ' hp' (w'.alloc (.cells cur T)) (.at B 0 0 0 0) (.box l):=by
 subst hB
 exact ⟨_,0,0,0,cur,T,rfl,heap_alloc_new _ _,hl,h⟩
theorem md (H : HC φ hp lo w0 w) {T : TypeId} {a : AV} {v : Value} {l : List AV} (hc : a.cells = some l) (ha : AVC φ hp w a v) :
  Okv P φ hp lo w0 w ⟨True,[.box l],[],fun ν=>.ad (ν.getD 0 0) 0⟩ (Instr.box T v):=by
 obtain ⟨c1,c2,c3⟩:=ew ha hc
 refine ⟨.pointer (some ⟨w.heap.size,0,none⟩),w.alloc (.cells v.cells T),by simp [Instr.box,newVar,newRow,newObj,Sem.run],?_⟩
 exact eT H (fz:=[]) (fun x hx=>by cases hx) (fD w) (.at w.heap.size 0 0 0 0) rfl (fun ν hν E=>nh c1 (fun i hi=>(c2 i hi).evo E) _ rfl) (fun ν=>.ad (bt _ _ _) rfl (bt _ _ _))
theorem kr (hT : cP P ti) (H : HC φ hp lo w0 w) {T : TypeId} {t : TInfo} (ht : ti T = some t) :
  Okv P φ hp lo w0 w ⟨True,[.box t.zero],[],fun ν=>.ad (ν.getD 0 0) 0⟩ (Instr.alloc T true (.tuple #[])):=by
 obtain ⟨i,z,d,hok⟩:=hT T t ht
 refine ⟨.pointer (some ⟨w.heap.size,0,none⟩),w.alloc (.cells z.cells T),by simp [Instr.alloc,zeroValue,typeInfo,hok.info,hok.zero,newVar,newRow,newObj,Sem.run],?_⟩
 exact eT H (fz:=[]) (fun x hx=>by cases hx) (fD w) (.at w.heap.size 0 0 0 0) rfl (fun ν hν E=>nh hok.zlen (fun i hi=>hok.zval i hi _ _ _) _ rfl) (fun ν=>.ad (bt _ _ _) rfl (bt _ _ _))
end
end Go.Proofs.Ytlodllmpndflcaa
namespace Go.Proofs.Ytlodllmpndflcaa
set_option linter.unusedVariables false
set_option linter.unusedSimpArgs false
open Go.RowKit
theorem iD {xs : List Int} {n : Int} {i : Nat} : gi (xs ++ [n]) i = if i < xs.length then gi xs i else if i = xs.length then n else 0:=by
 unfold gi
 simp only [List.getD_eq_getElem?_getD]
 by_cases h : i < xs.length
 · rw [if_pos h,List.getElem?_append_left h]
 · rw [if_neg h]
   by_cases h2 : i = xs.length
   · rw [if_pos h2,h2];simp
   · rw [if_neg h2,List.getElem?_eq_none (by simp;omega)];rfl
theorem ck {α : Type} {xs ys : List α} {d : α} {i : Nat} : (xs ++ ys).getD i d = if i < xs.length then xs.getD i d else ys.getD (i - xs.length) d:=by
 simp only [List.getD_eq_getElem?_getD]
 by_cases h : i < xs.length
 · rw [if_pos h,List.getElem?_append_left h]
 · rw [if_neg h,List.getElem?_append_right (by omega)]
theorem fk {α : Type} {xs : List α} {d : α} {l h i : Nat} (hi : i < h - l) (hh : h ≤ xs.length) : ((xs.take h).drop l).getD i d = xs.getD (l + i) d:=by
 simp only [List.getD_eq_getElem?_getD,List.getElem?_drop]
 rw [List.getElem?_take,if_pos (by omega)]
theorem cS {α : Type} {xs : List α} {d x : α} {i k : Nat} (hi : i < xs.length) : (xs.set i x).getD k d = if k = i then x else xs.getD k d:=by
 simp only [List.getD_eq_getElem?_getD,List.getElem?_set]
 by_cases h : i = k
 · subst h;simp [hi]
 · rw [if_neg h,if_neg (fun e=>h e.symm)]
theorem gm {α : Type} {n i : Nat} {x d : α} (hi : i < n) : (List.replicate n x).getD i d = x:=by
 simp [List.getD_eq_getElem?_getD,List.getElem?_replicate,hi]
theorem me {c : C} {r : List Int} (h : c.row = some r) {O : Nat → Prop} {w : World} {v : Value} (hv : Rd O w c v) : Rd O w (.I r) v:=by
 induction c using C.rec (motive_2:=fun _=>True) (motive_3:=fun _=>True)
 case I xs=>simp only [C.row,Option.some.injEq] at h;subst h;exact hv
 case nn c ih=>exact ih h hv.unn
 case nul =>
  simp only [C.row,Option.some.injEq] at h;subst h
  cases hv with
  | nul => exact Rd.sl (V := ⟨0, 1, fun i _ => .int .i64 (gi [] i)⟩) (vs := fun _ _ => undef) rfl (fun h => by cases h) (Nat.le_refl _) (by omega) (fun _ => ⟨rfl, rfl⟩) (fun ad e => by cases e) (fun ad e => by cases e) (fun i hi => absurd hi (Nat.not_lt_zero _))
  | sl hv => cases hv
 all_goals first|trivial|(simp only [C.row,reduceCtorEq] at h)
theorem nZ {c c' : C} {cs : List C} {V : View} (hv : c.view = some V) (hn : c.isNN = false) (h : rj c cs = some c') :
  ∃ V',c'.view = some V' ∧ c'.isNN = false ∧ V'.len = V.len + 1 ∧ V'.wd = V.wd ∧ cs.length = V.wd ∧ (∀ i j,i < V.len → V'.at' i j = V.at' i j) ∧
   ∀ j,j < V.wd → ∀ (O : Nat → Prop) w v,Rd O w (cs.getD j .nul) v → Rd O w (V'.at' V.len j) v:=by
 unfold rj at h
 split at h
 · rename_i xs n
   simp only [C.view,Option.some.injEq] at hv h;subst hv h
   refine ⟨_,rfl,rfl,by simp,rfl,rfl,fun i j hi=>?_,fun j hj O w v hr=>?_⟩
   · simp only at hi ⊢;rw [iD,if_pos hi]
   · have : j = 0:=by simp only at hj;omega
     subst this;simp only [iD,Nat.lt_irrefl,↓reduceIte];exact hr
 · rename_i xs b
   simp only [C.view,Option.some.injEq] at hv h;subst hv h
   refine ⟨_,rfl,rfl,by simp,rfl,rfl,fun i j hi=>?_,fun j hj O w v hr=>?_⟩
   · simp only at hi ⊢;unfold gb;rw [ck,if_pos hi]
   · have : j = 0:=by simp only at hj;omega
     subst this;simp only [gb,ck,Nat.lt_irrefl,↓reduceIte,Nat.sub_self];exact hr
 · rename_i xs n
   simp only [C.view,Option.some.injEq] at hv h;subst hv h
   refine ⟨_,rfl,rfl,by simp,rfl,rfl,fun i j hi=>?_,fun j hj O w v hr=>?_⟩
   · simp only at hi ⊢;rw [iD,if_pos hi]
   · have : j = 0:=by simp only at hj;omega
     subst this;simp only [iD,Nat.lt_irrefl,↓reduceIte];exact hr
 · rename_i xss c0
   split at h
   · rename_i r hr0
     simp only [C.view,Option.some.injEq] at hv h;subst hv h
     refine ⟨_,rfl,rfl,by simp,rfl,rfl,fun i j hi=>?_,fun j hj O w v hr=>?_⟩
     · simp only at hi ⊢;unfold gr;rw [ck,if_pos hi]
     · have : j = 0:=by simp only at hj;omega
       subst this;simp only [gr,ck,Nat.lt_irrefl,↓reduceIte,Nat.sub_self];exact me hr0 hr
   · cases h
 · rename_i wd es
   split at h
   · rename_i hl
     simp only [C.view] at hv
     split at hv
     · rename_i hwd
       simp only [Option.some.injEq] at hv h;subst hv h
       refine ⟨⟨(es ++ [cs]).length,wd,fun i j=>((es ++ [cs]).getD i []).getD j .nul⟩,by simp [C.view,hwd],rfl,by simp,rfl,hl,fun i j hi=>?_,fun j hj O w v hr=>?_⟩
       · simp only at hi ⊢;rw [ck,if_pos hi]
       · simp only [ck,Nat.lt_irrefl,↓reduceIte,Nat.sub_self];exact hr
     · cases hv
   · cases h
 · cases h
theorem n7 {c c' : C} {i : Nat} {cs : List C} {V : View} (hv : c.view = some V) (hn : c.isNN = false) (hi : i < V.len) (h : rk c i cs = some c') :
  ∃ V',c'.view = some V' ∧ c'.isNN = false ∧ V'.len = V.len ∧ V'.wd = V.wd ∧ cs.length = V.wd ∧ (∀ k j,k < V.len → k ≠ i → V'.at' k j = V.at' k j) ∧
   ∀ j,j < V.wd → ∀ (O : Nat → Prop) w v,Rd O w (cs.getD j .nul) v → Rd O w (V'.at' i j) v:=by
 unfold rk at h
 split at h
 · rename_i xs n
   simp only [C.view,Option.some.injEq] at hv h;subst hv h
   simp only at hi
   refine ⟨_,rfl,rfl,by simp,rfl,rfl,fun k j hk hne=>?_,fun j hj O w v hr=>?_⟩
   · simp only [gi];rw [cS hi,if_neg hne]
   · have : j = 0:=by simp only at hj;omega
     subst this;simp only [gi,cS hi,↓reduceIte];exact hr
 · rename_i xs n
   simp only [C.view,Option.some.injEq] at hv h;subst hv h
   simp only at hi
   refine ⟨_,rfl,rfl,by simp,rfl,rfl,fun k j hk hne=>?_,fun j hj O w v hr=>?_⟩
   · simp only [gb];rw [cS hi,if_neg hne]
   · have : j = 0:=by simp only at hj;omega
     subst this;simp only [gb,cS hi,↓reduceIte];exact hr
 · rename_i xs n
   simp only [C.view,Option.some.injEq] at hv h;subst hv h
   simp only at hi
   refine ⟨_,rfl,rfl,by simp,rfl,rfl,fun k j hk hne=>?_,fun j hj O w v hr=>?_⟩
   · simp only [gi];rw [cS hi,if_neg hne]
   · have : j = 0:=by simp only at hj;omega
     subst this;simp only [gi,cS hi,↓reduceIte];exact hr
 · rename_i xss c0
   split at h
   · rename_i r hr0
     simp only [C.view,Option.some.injEq] at hv h;subst hv h
     simp only at hi
     refine ⟨_,rfl,rfl,by simp,rfl,rfl,fun k j hk hne=>?_,fun j hj O w v hr=>?_⟩
     · simp only [gr];rw [cS hi,if_neg hne]
     · have : j = 0:=by simp only at hj;omega
       subst this;simp only [gr,cS hi,↓reduceIte];exact me hr0 hr
   · cases h
 · rename_i wd es
   split at h
   · rename_i hl
     simp only [C.view] at hv
     split at hv
     · rename_i hwd
       simp only [Option.some.injEq] at hv h;subst hv h
       simp only at hi
       refine ⟨⟨(es.set i cs).length,wd,fun k j=>((es.set i cs).getD k []).getD j .nul⟩,by simp [C.view,hwd],rfl,by simp,rfl,hl,fun k j hk hne=>?_,fun j hj O w v hr=>?_⟩
       · simp only;rw [cS hi,if_neg hne]
       · simp only [cS hi,↓reduceIte];exact hr
     · cases hv
   · cases h
 · cases h
theorem jF {c c' : C} {l h : Nat} {V : View} (hv : c.view = some V) (hl : l ≤ h) (hh : h ≤ V.len) (hs : jr l h c = some c') :
  ∃ V',c'.view = some V' ∧ c'.isNN = false ∧ V'.len = h - l ∧ V'.wd = V.wd ∧ ∀ i j,i < h - l → V'.at' i j = V.at' (l + i) j:=by
 induction c using C.rec (motive_2:=fun _=>True) (motive_3:=fun _=>True)
 case I xs =>
  simp only [C.view,Option.some.injEq,jr] at hv hs;subst hv hs
  simp only at hh
  exact ⟨_,rfl,rfl,by simp;omega,rfl,fun i j hi=>by simp only [gi];rw [fk hi hh]⟩
 case B xs =>
  simp only [C.view,Option.some.injEq,jr] at hv hs;subst hv hs
  simp only at hh
  exact ⟨_,rfl,rfl,by simp;omega,rfl,fun i j hi=>by simp only [gb];rw [fk hi hh]⟩
 case Y xs =>
  simp only [C.view,Option.some.injEq,jr] at hv hs;subst hv hs
  simp only at hh
  exact ⟨_,rfl,rfl,by simp;omega,rfl,fun i j hi=>by simp only [gi];rw [fk hi hh]⟩
 case R xs =>
  simp only [C.view,Option.some.injEq,jr] at hv hs;subst hv hs
  simp only at hh
  exact ⟨_,rfl,rfl,by simp;omega,rfl,fun i j hi=>by simp only [gr];rw [fk hi hh]⟩
 case V wd xs _ =>
  simp only [C.view] at hv
  split at hv
  · rename_i hwd
    simp only [Option.some.injEq,jr] at hv hs;subst hv hs
    simp only at hh
    exact ⟨⟨((xs.take h).drop l).length,wd,fun k j=>(((xs.take h).drop l).getD k []).getD j .nul⟩,by simp [C.view,hwd],rfl,by simp;omega,rfl,fun i j hi=>by simp only;rw [fk hi hh]⟩
  · cases hv
 case nn c ih=>exact ih hv hs
 all_goals first|trivial|(simp only [C.view,reduceCtorEq] at hv)
theorem jG {c d c' : C} {V : View} {m : Nat} (hv : c.view = some V) (hn : c.isNN = false) (h : gk c d = some c') (hm : dP d = some m) :
  ∃ V',c'.view = some V' ∧ c'.isNN = false ∧ V'.len = V.len + m ∧ V'.wd = V.wd ∧ (∀ i j,i < V.len → V'.at' i j = V.at' i j) ∧
   ∀ Vd,d.view = some Vd → Vd.wd = V.wd ∧ ∀ i j,i < m → V'.at' (V.len + i) j = Vd.at' i j:=by
 induction d using C.rec (motive_2:=fun _=>True) (motive_3:=fun _=>True)
 case nul =>
  have e : c' = c:=by cases c <;> simp_all [gk]
  have e2 : m = 0:=by simp [dP] at hm;exact hm.symm
  subst e e2
  exact ⟨V,hv,hn,rfl,rfl,fun _ _ _=>rfl,fun Vd h=>by cases h⟩
 case nn d ih =>
  have e : gk c (.nn d) = gk c d:=by cases c <;> rfl
  rw [e] at h
  refine ih h ?_
  cases hd : d.view with
  | none => simp [dP, C.view, hd] at hm
  | some Vd => have := gP (c := .nn d) hd hm; subst this; cases d <;> simp_all [dP, C.view]
 all_goals first|trivial|skip
 all_goals cases c <;> first|(simp only [gk,reduceCtorEq] at h;done)|(simp [C.view] at hv;done)|(simp [C.isNN] at hn;done)|skip
 case I.I ys xs =>
  simp only [C.view,Option.some.injEq,gk,dP] at hv h hm;subst hv h hm
  exact ⟨_,rfl,rfl,by simp,rfl,fun i j hi=>by simp only [gi] at hi ⊢;rw [ck,if_pos hi],fun Vd h=>by
   simp only [C.view,Option.some.injEq] at h;subst h
   exact ⟨rfl,fun i j hi=>by simp only [gi];rw [ck,if_neg (by omega),Nat.add_sub_cancel_left]⟩⟩
 case B.B ys xs =>
  simp only [C.view,Option.some.injEq,gk,dP] at hv h hm;subst hv h hm
  exact ⟨_,rfl,rfl,by simp,rfl,fun i j hi=>by simp only [gb] at hi ⊢;rw [ck,if_pos hi],fun Vd h=>by
   simp only [C.view,Option.some.injEq] at h;subst h
   exact ⟨rfl,fun i j hi=>by simp only [gb];rw [ck,if_neg (by omega),Nat.add_sub_cancel_left]⟩⟩
 case Y.Y ys xs =>
  simp only [C.view,Option.some.injEq,gk,dP] at hv h hm;subst hv h hm
  exact ⟨_,rfl,rfl,by simp,rfl,fun i j hi=>by simp only [gi] at hi ⊢;rw [ck,if_pos hi],fun Vd h=>by
   simp only [C.view,Option.some.injEq] at h;subst h
   exact ⟨rfl,fun i j hi=>by simp only [gi];rw [ck,if_neg (by omega),Nat.add_sub_cancel_left]⟩⟩
 case R.R ys xs =>
  simp only [C.view,Option.some.injEq,gk,dP] at hv h hm;subst hv h hm
  exact ⟨_,rfl,rfl,by simp,rfl,fun i j hi=>by simp only [gr] at hi ⊢;rw [ck,if_pos hi],fun Vd h=>by
   simp only [C.view,Option.some.injEq] at h;subst h
   exact ⟨rfl,fun i j hi=>by simp only [gr];rw [ck,if_neg (by omega),Nat.add_sub_cancel_left]⟩⟩
 case V.V wd' ys _ wd xs =>
  simp only [gk] at h
  split at h
  · rename_i e;subst e
    simp only [C.view] at hv hm
    split at hv
    · rename_i hwd
      simp only [Option.some.injEq] at hv h;subst hv h
      have hm' : m = ys.length:=by simp [dP,C.view,hwd] at hm;exact hm.symm
      subst hm'
      exact ⟨⟨(xs ++ ys).length,wd,fun i j=>((xs ++ ys).getD i []).getD j .nul⟩,by simp [C.view,hwd],rfl,by simp,rfl,fun i j hi=>by simp only at hi ⊢;rw [ck,if_pos hi],fun Vd h=>by
       simp only [C.view,hwd,↓reduceIte,Option.some.injEq] at h;subst h
       exact ⟨rfl,fun i j hi=>by simp only;rw [ck,if_neg (by omega),Nat.add_sub_cancel_left]⟩⟩
    · cases hv
  · cases h
end Go.Proofs.Ytlodllmpndflcaa
namespace Go.Proofs.Ytlodllmpndflcaa
set_option linter.unusedVariables false
set_option linter.unusedSimpArgs false
open Go.RowKit
theorem dR (b : Nat) (T : TypeId) : ∀ (vs : List Value) (o : Nat) (w : World) (cur : Array Value),w.heap[b]? = some (.cells cur T (0,0)) → o + vs.length ≤ cur.size →
  ∃ cur',(w.setCells b o vs).heap[b]? = some (.cells cur' T (0,0)) ∧ cur'.size = cur.size ∧ ∀ k,cur'[k]? = if o ≤ k ∧ k < o + vs.length then vs[k - o]? else cur[k]?:=by
 intro vs
 induction vs with
 | nil => intro o w cur h _; exact ⟨cur, h, rfl, fun k => by simp only [List.length_nil, Nat.add_zero]; rw [if_neg (by omega)]⟩
 | cons v vs ih =>
   intro o w cur h hl
   simp only [List.length_cons] at hl
   have h1 : (w.setCell ⟨b,o,none⟩ v).heap[b]? = some (.cells (cur.setIfInBounds o v) T (0,0)):=by
    simp [World.setCell,Array.getElem?_modify,h]
   obtain ⟨cur',g1,g2,g3⟩:=ih (o + 1) _ _ h1 (by simp;omega)
   refine ⟨cur',g1,by rw [g2];simp,fun k=>?_⟩
   rw [g3 k]
   by_cases h2 : o + 1 ≤ k ∧ k < o + 1 + vs.length
   · rw [if_pos h2,if_pos (by simp;omega),show k - o = (k - (o + 1)) + 1 by omega];simp
   · rw [if_neg h2]
     by_cases h3 : k = o
     · subst h3
       rw [if_pos (by simp)]
       simp [show k < cur.size by omega]
     · rw [if_neg (by simp;omega)]
       simp [Array.getElem?_setIfInBounds_ne (Ne.symm h3)]
theorem dd (b : Nat) : ∀ (vs : List Value) (o : Nat) (w : World),(w.setCells b o vs).heap.size = w.heap.size ∧ (∀ k,k ≠ b → (w.setCells b o vs).heap[k]? = w.heap[k]?) ∧ (w.setCells b o vs).os = w.os ∧ (w.setCells b o vs).tape = w.tape ∧ (w.setCells b o vs).output = w.output:=by
 intro vs
 induction vs with
 | nil => intro o w; exact ⟨rfl, fun _ _ => rfl, rfl, rfl, rfl⟩
 | cons v vs ih =>
   intro o w
   obtain ⟨h1,h2,h3,h4,h5⟩:=ih (o + 1) (w.setCell ⟨b,o,none⟩ v)
   exact ⟨by rw [World.setCells,h1];simp,fun k hk=>by rw [World.setCells,h2 k hk];exact Below.heap_setCell _ _ _ _ hk,h3,h4,h5⟩
theorem dS {lo : Nat} {w0 w : World} (h : Below lo w0 w) {b o : Nat} {vs : List Value} (hb : lo ≤ b) : Below lo w0 (w.setCells b o vs):=by
 obtain ⟨h1,h2,h3,h4,h5⟩:=dd b vs o w
 exact ⟨h3.trans h.os,h4.trans h.tape,h5.trans h.output,by rw [h1];exact h.size,fun k hk=>by rw [h2 k (by omega)];exact h.block k hk⟩
section
variable {P : Program} {ti : TI} {φ : Nat → Loc} {hp : Hp} {lo : Nat} {w0 w : World}
theorem jH {cs : List AV} {ds : List C} {fz : List Nat} (h : fa hp cs = some (ds,fz)) : ds.length = cs.length ∧ ∀ j,j < cs.length → ∃ f,toC hp (cs.getD j .any) = some (ds.getD j .nul,f) ∧ ∀ x,x ∈ f → x ∈ fz:=by
 induction cs generalizing ds fz with
 | nil => simp only [fa, Option.some.injEq, Prod.mk.injEq] at h; obtain ⟨rfl, rfl⟩ := h; exact ⟨rfl, fun j hj => by simp at hj⟩
 | cons a cs ih =>
   simp only [fa] at h
   split at h
   · rename_i c f1 ds' f2 h1 h2
     simp only [Option.some.injEq,Prod.mk.injEq] at h;obtain ⟨rfl,rfl⟩:=h
     obtain ⟨g1,g2⟩:=ih h2
     refine ⟨by simp [g1],fun j hj=>?_⟩
     cases j with
     | zero => exact ⟨f1, by simpa using h1, fun x hx => List.mem_append_left _ hx⟩
     | succ j =>
       obtain ⟨f,e1,e2⟩:=g2 j (by simp at hj;omega)
       exact ⟨f,by simpa using e1,fun x hx=>List.mem_append_right _ (e2 x hx)⟩
   · cases h
theorem lm {cs : List AV} {ds : List C} {fz : List Nat} (h : fa hp cs = some (ds,fz)) : ∀ x,x ∈ fz → ∃ T nn d,hp x = some (.arr T nn d):=by
 induction cs generalizing ds fz with
 | nil => simp only [fa, Option.some.injEq, Prod.mk.injEq] at h; obtain ⟨rfl, rfl⟩ := h; intro x hx; cases hx
 | cons a cs ih =>
   simp only [fa] at h
   split at h
   · rename_i c f1 ds' f2 h1 h2
     simp only [Option.some.injEq,Prod.mk.injEq] at h;obtain ⟨rfl,rfl⟩:=h
     intro x hx
     rcases List.mem_append.1 hx with hx|hx
     · exact rp h1 x hx
     · exact ih h2 x hx
   · cases h
theorem ln (H : HC φ hp lo w0 w) {fz : List Nat} {φ' : Nat → Loc} {hp' : Hp} {w' : World} (E : Evo φ hp w φ' hp' w') (hd : ∀ x,x ∈ fz → hp' x = some .dead) (hsame : ∀ x,x ∈ fz → cf hp x → ∀ b,(φ x).blk = some b → w'.heap[b]? = w.heap[b]?)
  (hno : ∀ b,Own φ' hp' b → b < w.heap.size → ∃ y,cf hp y ∧ (φ y).blk = some b ∧ ¬ y ∈ fz) :
  ∀ b,b < w.heap.size → (¬ Own φ hp b ∨ ∃ ν,ν ∈ fz ∧ cf hp ν ∧ (φ ν).blk = some b) → w'.heap[b]? = w.heap[b]? ∧ ¬ Own φ' hp' b:=by
 rintro b hb (h|⟨ν,h1,h2,h3⟩)
 · exact E.bl b hb h
 · refine ⟨hsame ν h1 h2 b h3,fun ho=>?_⟩
   obtain ⟨y,h4,h5,h6⟩:=hno b ho hb
   exact H.sep ν y b (fun e=>h6 (by subst e;exact h1)) h2 h4 h3 h5
theorem iW {T : TypeId} {t : TInfo} {i : TypeInfo} {z : Value} {d : TypeDesc} (hok : TOk P T t i z d) {b o : Nat} {v : Value} {cur : Array Value} {T' : TypeId} (hs : v.cells.size = t.size) (h1 : ∀ u,u ∈ v.cells.toList → u.oneCell' = true) (hb : w.heap[b]? = some (.cells cur T' (0,0))) (hl : o + v.cells.size ≤ cur.size) :
  (Instr.storeAt T (.pointer (some ⟨b,o,none⟩)) v).run P w = .ok () (w.setCells b o v.cells.toList):=by
 have:=run_storeCells_cells (P:=P) b o v.cells.toList 0 w (fun j hj=>by simp only [Array.length_toList] at hj;simp [World.cell?,hb,show o + j < cur.size by omega]) (fun j hj=>by simp [World.frozen?,hb]) h1
 simp only [Nat.add_zero] at this
 simp [Instr.storeAt,Instr.sureAddr,storeVar,sizeOf,typeInfo,hok.info,hok.size,hs,this]
theorem ks (hT : cP P ti) (H : HC φ hp lo w0 w) {T : TypeId} {a b : AV} {u v : Value} {E : Eff} (h : fT ti hp T a b = some E) (hc : E.cond) (ha : AVC φ hp w a u) (hb : AVC φ hp w b v) :
  ∃ w',(Instr.storeAt T u v).run P w = .ok () w' ∧ Out φ hp lo w0 w E.up E.nw E.val undef w':=by
 unfold fT at h
 split at h
 · rename_i t cs ht hcs
   obtain ⟨i,z,d,hok⟩:=hT T t ht
   obtain ⟨c1,c2,c3⟩:=ew hb hcs
   split at h
   · rename_i hlen
     split at h
     · rename_i ν off
       split at h
       · rename_i l he
         split at h
         · rename_i hfit
           injection h with h;subst h
           obtain ⟨g,n,cp,wd,hl,rfl⟩:=fW ha he
           obtain ⟨cur,T',h1,h2,h3⟩:=eu H he hl
           refine ⟨_,iW hok (by omega) c3 h1 (by omega),?_⟩
           obtain ⟨o1,o2,o3,o4,o5⟩:=dd g v.cells.toList off w
           obtain ⟨cur',g1,g2,g3⟩:=dR g T' v.cells.toList off w cur h1 (by simp;omega)
           intro ν' hν' _ _
           have : ν' = []:=List.eq_nil_of_length_eq_zero hν'
           subst this
           have hlg : lo ≤ g:=H.lo ν g ⟨_,he,by simp [Ent.kind]⟩ (by rw [hl];rfl)
           have:=H.write (fz:=[]) (e':=.box (ff l off cs)) he rfl (by simp [Ent.kind]) (fun x hx=>by cases hx) (fun hx=>by cases hx) (dS H.fr hlg) (by rw [o1];exact Nat.le_refl _) (fun b hb hne=>o2 b (fun e=>hne (by rw [hl,e];rfl))) (fun E=>by
            refine ⟨g,n,cp,wd,cur',T',hl,g1,by rw [g2,h2,fC],fun j hj=>?_⟩
            rw [fC] at hj
            rw [iV _ _ _ _ hfit,Array.getD_eq_getD_getElem?,g3 j]
            simp only [Array.length_toList]
            by_cases hr : off ≤ j ∧ j < off + cs.length
            · rw [if_pos hr,if_pos (by omega)]
              have:=(c2 (j - off) (by omega)).evo E
              rw [fi,List.getD_eq_getElem?_getD] at this
              exact this
            · rw [if_neg hr,if_neg (by omega)]
              have:=(h3 j hj).evo E
              rw [Array.getD_eq_getD_getElem?] at this
              exact this)
           exact ⟨φ,this.1,this.2,.any _⟩
         · cases h
       · cases h
     · rename_i ν i' j'
       split at h
       · rename_i T' nn c he
         split at h
         · rename_i V ds fz hv hds
           split at h
           · rename_i c' hput
             injection h with h;subst h
             obtain ⟨hci,hj0,hnf⟩:=hc
             have hci : i' < V.len:=hci
             subst hj0
             obtain ⟨g,o,n,cp,wd,hl,rfl⟩:=l6 ha he
             obtain ⟨V0,cur,hv0,hnn,rfl,rfl,h1,h2,h3,h4,hh,h5⟩:=jE H he hl
             rw [hv] at hv0;injection hv0 with hv0;subst hv0
             obtain ⟨V',p1,p2,p3,p4,p5,p6,p7⟩:=n7 hv hnn hci hput
             obtain ⟨d1,d2⟩:=jH hds
             have hwl : cs.length = V.wd:=by omega
             have hin : i' * V.wd + V.wd ≤ V.len * V.wd:=by rw [← Nat.succ_mul];exact Nat.mul_le_mul_right _ hci
             have hcap : V.len * V.wd ≤ cp * V.wd:=Nat.mul_le_mul_right _ h2
             refine ⟨_,iW hok (by omega) c3 h1 (by simp only [Nat.add_zero];omega),?_⟩
             obtain ⟨o1,o2,o3,o4,o5⟩:=dd g v.cells.toList (o + (i' * V.wd + 0)) w
             obtain ⟨cur',g1,g2,g3⟩:=dR g T' v.cells.toList (o + (i' * V.wd + 0)) w cur h1 (by simp only [Nat.add_zero,Array.length_toList];omega)
             intro ν' hν' _ _
             have : ν' = []:=List.eq_nil_of_length_eq_zero hν'
             subst this
             have hlive : cf hp ν:=⟨_,he,by simp [Ent.kind]⟩
             have hlg : lo ≤ g:=H.lo ν g ⟨_,he,by simp [Ent.kind]⟩ (by rw [hl];rfl)
             have hdom:=lm hds
             have:=H.write (fz:=fz) (e':=.arr T' nn c') he rfl (by simp [Ent.kind]) (fun x hx=>by obtain ⟨_,_,_,e⟩:=hdom x hx;exact ⟨_,e,rfl⟩) hnf (dS H.fr hlg) (by rw [o1];exact Nat.le_refl _) (fun b hb hne=>o2 b (fun e=>hne (by rw [hl,e];rfl))) (fun E=>by
              have hgu:=ln H (fz:=fz) E (fun x hx=>by rw [cc (fun e=>hnf (by subst e;exact hx)),co,if_pos hx]) (fun x hx hlx b hb=>o2 b fun e=>H.sep x ν b (fun e2=>hnf (by subst e2;exact hx)) hlx hlive hb (by rw [hl,e];rfl)) (fun b ⟨y,hy1,hy2⟩ hb=>by
               by_cases ey : y = ν
               · subst ey;exact ⟨y,hlive,hy2,hnf⟩
               · unfold cf at hy1;rw [cc ey] at hy1;have:=eP.1 hy1;exact ⟨y,this.2,hy2,this.1⟩)
              refine ⟨V',p1,p2,.inr ⟨g,o,cp,cur',by rw [p3,p4];exact hl,g1,by omega,h3,by rw [p4,g2];exact h4,(fun e=>by rw [p4,g2];exact hh e),fun k hk q hq=>?_⟩⟩
              rw [p3] at hk;rw [p4] at hq ⊢
              rw [g3]
              simp only [Nat.add_zero,Array.length_toList]
              by_cases hki : k = i'
              · subst hki
                rw [if_pos (by omega),show o + (k * V.wd + q) - (o + k * V.wd) = q by omega]
                obtain ⟨f,t1,t2⟩:=d2 q (by omega)
                have hq' : q < v.cells.toList.length:=by simp;omega
                refine ⟨_,List.getElem?_eq_getElem hq',?_⟩
                have hcv:=c2 q (by omega)
                rw [fi,bI hq'] at hcv
                have:=l5 (w':=w.setCells g (o + (k * V.wd + 0)) v.cells.toList) (O':=Own φ (upd (aY hp (b7 fz)) ν (some (.arr T' nn c')))) H t1 hcv (fun b hb hh=>hgu b hb (hh.imp id fun ⟨y,y1,y2⟩=>⟨y,t2 y y1,y2⟩)) (by rw [o1];exact Nat.le_refl _)
                exact p7 q hq _ _ _ this
              · have hne : ¬ (o + i' * V.wd ≤ o + (k * V.wd + q) ∧ o + (k * V.wd + q) < o + i' * V.wd + v.cells.size):=by
                 rintro ⟨r1,r2⟩
                 rcases Nat.lt_or_gt_of_ne hki with hlt|hgt
                 · have : k * V.wd + V.wd ≤ i' * V.wd:=by rw [← Nat.succ_mul];exact Nat.mul_le_mul_right _ hlt
                   omega
                 · have : i' * V.wd + V.wd ≤ k * V.wd:=by rw [← Nat.succ_mul];exact Nat.mul_le_mul_right _ hgt
                   omega
                rw [if_neg hne]
                obtain ⟨v',q1,q2⟩:=h5 k hk q hq
                exact ⟨v',q1,by rw [p6 k q hk hki];exact q2.mono E.bl E.sz⟩)
             rw [lg]
             exact ⟨φ,this.1,this.2,.any _⟩
           · cases h
         · cases h
       · cases h
     · cases h
   · cases h
 · cases h
end
end Go.Proofs.Ytlodllmpndflcaa
namespace Go.Proofs.Ytlodllmpndflcaa
set_option linter.unusedVariables false
set_option linter.unusedSimpArgs false
open Go.RowKit
theorem iX {i j wd : Nat} (h : j < wd) : (i * wd + j) / wd = i ∧ (i * wd + j) % wd = j:=by
 have hp : 0 < wd:=by omega
 rw [Nat.mul_comm,Nat.mul_add_div hp,Nat.mul_add_mod,Nat.div_eq_of_lt h,Nat.mod_eq_of_lt h]
 exact ⟨rfl,rfl⟩
theorem fR {i j n wd : Nat} (hi : i < n) (hj : j < wd) : i * wd + j < n * wd:=by
 have : i * wd + wd ≤ n * wd:=by rw [← Nat.succ_mul];exact Nat.mul_le_mul_right _ hi
 omega
section
variable {P : Program} {ti : TI} {φ : Nat → Loc} {hp : Hp} {lo : Nat} {w0 w : World}
theorem pu {O : Nat → Prop} {c : C} {V : View} {sa : Option Addr} {n cp : Nat} (h : Rd O w c (.slice sa n cp)) (hv : c.view = some V) :
  ∃ L : List Value,n = V.len ∧ L.length = n * V.wd ∧ (∀ w',w'.heap = w.heap → (Builtin.firstCells V.wd n (.slice sa n cp)).run P w' = .ok L.toArray w') ∧
   (∀ i,i < n → ∀ j,j < V.wd → Rd O w (V.at' i j) (L.getD (i * V.wd + j) undef)) ∧ ∀ u,u ∈ L → u.oneCell' = true:=by
 cases h with
 | nul => cases hv
 | @sl _ V' _ _ vs hv' hn hc hm h0 hs cell rec =>
   rw [hv] at hv';injection hv' with hv';subst hv'
   have hwd:=C.view_wd hv
   have hget : ∀ i,i < V.len → ∀ j,j < V.wd → ((List.range (V.len * V.wd)).map fun q=>vs (q / V.wd) (q % V.wd)).getD (i * V.wd + j) undef = vs i j:=by
    intro i hi j hj
    have:=fR hi hj
    simp [List.getD_eq_getElem?_getD,this,(iX (i:=i) hj).1,(iX (i:=i) hj).2]
   refine ⟨(List.range (V.len * V.wd)).map fun q=>vs (q / V.wd) (q % V.wd),rfl,by simp,fun w' hw'=>?_,fun i hi j hj=>?_,fun u hu=>?_⟩
   · cases sa with
     | none =>
       have:=(h0 rfl).1
       rw [this]
       simp [Builtin.firstCells]
     | some ad =>
       refine run_firstCells_some (P:=P) w' V.wd V.len ad V.len cp _ (by simp) fun q v hq=>?_
       obtain ⟨hq1,hq2⟩:=List.getElem?_eq_some_iff.1 hq
       have hq1' : q < V.len * V.wd:=by simpa using hq1
       have hlen : 0 < V.len := by rcases Nat.eq_zero_or_pos V.len with h | h; · rw [h, Nat.zero_mul] at hq1'; omega
                                   · exact h
       obtain ⟨s1,s2,s3⟩:=hs ad rfl hlen
       obtain ⟨b,o,s⟩:=ad
       simp only at s1;subst s1
       rw [fj]
       have e:=Nat.div_add_mod q V.wd
       have hi : q / V.wd < V.len:=Nat.div_lt_of_lt_mul (by rwa [Nat.mul_comm] at hq1')
       have hj : q % V.wd < V.wd:=Nat.mod_lt _ hwd
       have:=cell _ rfl _ hi _ hj
       rw [show q / V.wd * V.wd + q % V.wd = q by rw [Nat.mul_comm];exact e] at this
       rw [World.cell_same (w:=w) (by rw [hw']),this]
       simp at hq2
       rw [← hq2]
   · rw [hget i hi j hj];exact rec i hi j hj
   · obtain ⟨q,hq,e⟩:=List.mem_map.1 hu
     have hq' : q < V.len * V.wd:=by simpa using hq
     have hi : q / V.wd < V.len:=Nat.div_lt_of_lt_mul (by rwa [Nat.mul_comm] at hq')
     rw [← e]
     exact (rec _ hi _ (Nat.mod_lt _ hwd)).one
theorem jI {ν : Nat} {T : TypeId} {nn : Fl} {c : C} {V : View} (H : HC φ hp lo w0 w) (he : hp ν = some (.arr T nn c)) (hv : c.view = some V) :
  ∃ L : List Value,L.length = V.len * V.wd ∧ (∀ w',w'.heap = w.heap → (Builtin.firstCells V.wd V.len (φ ν).val).run P w' = .ok L.toArray w') ∧
   (∀ i,i < V.len → ∀ j,j < V.wd → Rd (Own φ hp) w (V.at' i j) (L.getD (i * V.wd + j) undef)) ∧ (∀ u,u ∈ L → u.oneCell' = true) ∧ ∃ sa cp,(φ ν).val = .slice sa V.len cp:=by
 have hwd:=C.view_wd hv
 obtain ⟨V',hv',hnn,⟨h0,h1,h2⟩|⟨g,o,cp,cur,h0,h1,h2,h3,h4,_,h5⟩⟩:=H.ent ν _ he
 · rw [hv] at hv';injection hv' with hv';subst hv'
   exact ⟨[],by simp [h1],fun w' hw'=>by rw [h0];simp [Loc.val,Builtin.firstCells],fun i hi=>by omega,fun u hu=>(by cases hu),none,0,by rw [h0,h1];rfl⟩
 · rw [hv] at hv';injection hv' with hv';subst hv'
   have hcap : V.len * V.wd ≤ cp * V.wd:=Nat.mul_le_mul_right _ h2
   have hat : ∀ q,q < V.len * V.wd → ∃ v,cur[o + q]? = some v ∧ Rd (Own φ hp) w (V.at' (q / V.wd) (q % V.wd)) v:=by
    intro q hq
    have hi : q / V.wd < V.len:=Nat.div_lt_of_lt_mul (by rwa [Nat.mul_comm] at hq)
    obtain ⟨v,g1,g2⟩:=h5 _ hi _ (Nat.mod_lt _ hwd)
    rw [show q / V.wd * V.wd + q % V.wd = q by rw [Nat.mul_comm];exact Nat.div_add_mod q V.wd] at g1
    exact ⟨v,g1,g2⟩
   refine ⟨(List.range (V.len * V.wd)).map fun q=>(cur[o + q]?).getD undef,by simp,fun w' hw'=>?_,fun i hi j hj=>?_,fun u hu=>?_,_,_,by rw [h0];rfl⟩
   · rw [h0]
     refine run_firstCells_some (P:=P) w' V.wd V.len ⟨g,o,none⟩ V.len cp _ (by simp) fun q v hq=>?_
     obtain ⟨hq1,hq2⟩:=List.getElem?_eq_some_iff.1 hq
     obtain ⟨v',g1,g2⟩:=hat q (by simpa using hq1)
     simp [g1] at hq2
     subst hq2
     rw [fj,World.cell_same (w:=w) (by rw [hw'])]
     exact eS h1 g1
   · have hq:=fR hi hj
     obtain ⟨v,g1,g2⟩:=hat _ hq
     simp only [(iX (i:=i) hj).1,(iX (i:=i) hj).2] at g2
     have : ((List.range (V.len * V.wd)).map fun q=>(cur[o + q]?).getD undef).getD (i * V.wd + j) undef = v:=by
      simp [List.getD_eq_getElem?_getD,hq,g1]
     rw [this];exact g2
   · obtain ⟨q,hq,e⟩:=List.mem_map.1 hu
     obtain ⟨v,g1,g2⟩:=hat q (by simpa using hq)
     rw [← e,g1]
     exact g2.one
theorem jJ (H : HC φ hp lo w0 w) {y : AV} {d : C} {m wd : Nat} {v : Value} (h : slC hp y = some d) (hm : dP d = some m) (hv : AVC φ hp w y v) (hwd : ∀ Vd,d.view = some Vd → Vd.wd = wd) :
  ∃ L : List Value,L.length = m * wd ∧ (∀ w',w'.heap = w.heap → (Builtin.firstCells wd m v).run P w' = .ok L.toArray w') ∧
   (∀ Vd,d.view = some Vd → ∀ i,i < m → ∀ j,j < wd → Rd (Own φ hp) w (Vd.at' i j) (L.getD (i * wd + j) undef)) ∧ (∀ u,u ∈ L → u.oneCell' = true) ∧ ∃ sa cp,v = .slice sa m cp:=by
 have fromRd : ∀ (d : C) (v : Value),dP d = some m → Rd (Own φ hp) w d v → (∀ Vd,d.view = some Vd → Vd.wd = wd) → ∃ L : List Value,L.length = m * wd ∧ (∀ w',w'.heap = w.heap → (Builtin.firstCells wd m v).run P w' = .ok L.toArray w') ∧
   (∀ Vd,d.view = some Vd → ∀ i,i < m → ∀ j,j < wd → Rd (Own φ hp) w (Vd.at' i j) (L.getD (i * wd + j) undef)) ∧ (∀ u,u ∈ L → u.oneCell' = true) ∧ ∃ sa cp,v = .slice sa m cp:=by
  intro d v hm hr hwd
  obtain ⟨sa,cp,rfl⟩:=pt hr hm
  cases hd : d.view with
  | none =>
    have : d = .nul:=by cases d <;> simp_all [dP]
    subst this
    cases hr with
    | nul => exact ⟨[], by simp, fun w' hw' => by simp [Builtin.firstCells], fun Vd h => (by cases h), fun u hu => (by cases hu), none, 0, rfl⟩
    | sl h => cases h
  | some Vd =>
    have e:=hwd Vd hd
    subst e
    obtain ⟨L,h1,h2,h3,h4,h5⟩:=pu (P:=P) hr hd
    exact ⟨L,h2,h3,fun V' hV' i hi j hj=>by injection hV' with hV';subst hV';exact h4 i hi j hj,h5,_,_,rfl⟩
 unfold slC at h
 split at h
 · injection h with h;subst h
   exact fromRd _ _ hm (cJ hv) hwd
 · rename_i ν
   split at h
   · rename_i T nn c he
     injection h with h;subst h
     obtain ⟨V,hV,hnn,_⟩:=H.ent ν _ he
     have hV' : (if nn.nn then C.nn c else c).view = some V:=by split <;> exact hV
     have e1:=hwd V hV'
     subst e1
     have e2:=gP hV' hm
     subst e2
     obtain ⟨L,h1,h2,h3,h4,h5⟩:=jI (P:=P) H he hV
     obtain rfl:=fh hv he
     exact ⟨L,h1,h2,fun V' hq=>by rw [hV'] at hq;injection hq with hq;subst hq;exact h3,h4,h5⟩
   · cases h
 · cases h
theorem kt {T e ty : TypeId} {te : TInfo} {i : TypeInfo} {z : Value} {d : TypeDesc} (hu : P.underlying T = some (.slice e)) (hok : TOk P e te i z d) {g o n cp m : Nat} {y : Value} {sb : Option Addr} {cb : Nat} (hy : y = .slice sb m cb) {cur : Array Value} {T' : TypeId} {L : List Value}
  (hL : L.length = m * te.size) (hf : ∀ w',w'.heap = w.heap → (Builtin.firstCells te.size m y).run P w' = .ok L.toArray w') (h1 : ∀ u,u ∈ L → u.oneCell' = true) (hb : w.heap[g]? = some (.cells cur T' (0,0))) (hroom : n + m ≤ cp) (hfit : o + n * te.size + L.length ≤ cur.size) :
  (Builtin.append_ #[T,T] ty #[.slice (some ⟨g,o,none⟩) n cp,y]).run P w = .ok (.slice (some ⟨g,o,none⟩) (n + m) cp) (w.setCells g (o + n * te.size) L):=by
 have hst:=run_storeCells_cells (P:=P) g (o + n * te.size) L 0 w (fun j hj=>by simp [World.cell?,hb,show o + n * te.size + j < cur.size by omega]) (fun j hj=>by simp [World.frozen?,hb]) h1
 simp only [Nat.add_zero] at hst
 have hf':=hf w rfl
 subst hy
 simp [Builtin.append_,run_underlying hu,sizeOf,typeInfo,hok.info,hok.size,Builtin.lenOf,hroom,hf',fj,hst]
theorem gn {T e ty : TypeId} {te : TInfo} {i : TypeInfo} {z : Value} {d : TypeDesc} (hu : P.underlying T = some (.slice e)) (hok : TOk P e te i z d) {y : Value} {sb : Option Addr} {cb : Nat} (hy : y = .slice sb 0 cb)
  (hf : ∀ w',w'.heap = w.heap → (Builtin.firstCells te.size 0 y).run P w' = .ok #[] w') :
  (Builtin.append_ #[T,T] ty #[.slice none 0 0,y]).run P w = .ok (.slice none 0 0) w:=by
 have hf':=hf w rfl
 subst hy
 simp [Builtin.append_,run_underlying hu,sizeOf,typeInfo,hok.info,hok.size,Builtin.lenOf,hf']
theorem eU {T e ty : TypeId} {te : TInfo} {i : TypeInfo} {z : Value} {d : TypeDesc} (hu : P.underlying T = some (.slice e)) (hok : TOk P e te i z d) {base : Option Addr} {n cp m : Nat} {y : Value} {sb : Option Addr} {cb : Nat} (hy : y = .slice sb m cb) {L0 L : List Value}
  (hf0 : ∀ w',w'.heap = w.heap → (Builtin.firstCells te.size n (.slice base n cp)).run P w' = .ok L0.toArray w') (hf : ∀ w',w'.heap = w.heap → (Builtin.firstCells te.size m y).run P w' = .ok L.toArray w') (hg : cp < n + m) (hb : n + m ≤ 137438953472) :
  ∃ cap rest,n + m ≤ cap ∧ cap ≤ 9223372036854775807 ∧ rest.size = (cap - (n + m)) * te.size ∧ (Builtin.append_ #[T,T] ty #[.slice base n cp,y]).run P w = .ok (.slice (some ⟨w.heap.size,0,none⟩) (n + m) cap) (w.drew.alloc (.cells (L0.toArray ++ L.toArray ++ rest) e)):=by
 have hn : ¬ (n + m ≤ cp):=by omega
 have h63' : ¬ (9223372036854775807 < ((n : Int) + (m : Int))):=by omega
 have hby:=hok.bytes
 have hmul : (n + m) * i.bytes ≤ 137438953472 * 1024:=Nat.mul_le_mul hb hby
 have h48:=growslice_fits (need:=n + m) (old:=cp) (bytes:=i.bytes) hg (by omega)
 have h48' : ¬ (281474976710656 < Builtin.nextslicecap (n + m) cp * i.bytes):=by omega
 have e1:=hf0 w.drew rfl
 have e2:=hf w.drew rfl
 have hge:=grownCap_ge w (n + m) cp e
 have hle:=grownCap_le_maxLen w (n + m) cp e (by unfold maxLen;omega)
 refine ⟨grownCap w (n + m) cp e,Builtin.zeroCells z.cells (grownCap w (n + m) cp e - (n + m)),hge,by unfold maxLen at hle;omega,by rw [size_zeroCells,hok.zlen,hok.zlen2],?_⟩
 subst hy
 simp [Builtin.append_,run_underlying hu,sizeOf,typeInfo,zeroValue,hok.info,hok.size,hok.zero,Builtin.lenOf,hn,h63',h48',Question.forced,e1,e2,newRow,grownCap]
 rw [← Array.append_assoc,show L0.toArray ++ L.toArray = (L0 ++ L).toArray from by simp]
theorem gp {φ' : Nat → Loc} {hp' : Hp} {w' : World} {T : TypeId} {nn : Fl} {c : C} {V : View} (hv : c.view = some V) (hnn : c.isNN = false) {cur : Array Value} {cap : Nat} (B : Nat) (hB : B = w'.heap.size) (h1 : V.len ≤ cap) (h2 : cap ≤ 9223372036854775807) (h3 : cap * V.wd = cur.size)
  (h : ∀ i,i < V.len → ∀ j,j < V.wd → ∃ v,cur[i * V.wd + j]? = some v ∧ Rd (Own φ' hp') (w'.alloc (.cells cur T)) (V.at' i j) v) :
  e9 φ' hp' (w'.alloc (.cells cur T)) (.at B 0 V.len cap V.wd) (.arr T nn c):=by
 subst hB
 exact ⟨V,hv,hnn,.inr ⟨_,0,cap,cur,rfl,heap_alloc_new _ _,h1,h2,by omega,(fun _=>⟨rfl,h3⟩),fun i hi j hj=>by rw [Nat.zero_add];exact h i hi j hj⟩⟩
theorem js (hT : cP P ti) (H : HC φ hp lo w0 w) {T ty : TypeId} {a b : AV} {u v : Value} {E : Eff} (h : eO ti hp T a b = some E) (hc : E.cond) (ha : AVC φ hp w a u) (hb : AVC φ hp w b v) : Okv P φ hp lo w0 w E (Builtin.append_ #[T,T] ty #[u,v]):=by
 unfold eO at h
 split at h
 · rename_i t ht
   obtain ⟨_,_,_,hok0⟩:=hT T t ht
   split at h
   · rename_i e hsh
     have hd:=hok0.sh
     rw [hsh] at hd
     simp only [fg] at hd
     have hu:=hok0.und
     rw [hd] at hu
     split at h
     · rename_i te hte
       obtain ⟨i,z,d,hok⟩:=hT e te hte
       split at h
       · rename_i cd em hcd hem
         split at h
         · rename_i m hm
           obtain ⟨emn,Ve,hve,hve0,hvew⟩:=hok.em em hem
           split at h
           ·
            split at h
            · rename_i c' hcat
              injection h with h;subst h
              have hc' : m ≤ 137438953472:=hc
              obtain rfl:=fx ha
              obtain ⟨V',p1,p2,p3,p4,p5,p6⟩:=jG hve emn hcat hm
              obtain ⟨L,g1,g2,g3,g4,sa,cp,rfl⟩:=jJ (P:=P) (wd:=te.size) H hcd hm hb (fun Vd hVd=>by rw [(p6 Vd hVd).1,hvew])
              have hwd' : V'.wd = te.size:=by rw [p4,hvew]
              by_cases hm0 : m = 0
              · subst hm0
                have hL0 : L = []:=List.eq_nil_of_length_eq_zero (by omega)
                subst hL0
                refine ⟨_,w,gn hu hok rfl g2,?_⟩
                intro ν hl hn hf
                match ν,hl with
                | [ν], _ =>
                  have hν:=hf ν (by simp)
                  obtain ⟨h1,h2⟩:=H.put hν (fz:=[]) (fun x hx=>by cases hx) (loc:=.nil) (e:=.arr e .may c') H.fr (Nat.le_refl _) (fun g hg=>by cases hg) (fun b hb hne=>rfl) (fun E=>⟨V',p1,p2,.inl ⟨rfl,by omega,rfl⟩⟩)
                  exact ⟨_,h1,h2,by have:=AVC.sl (φ:=upd φ ν .nil) (w:=w) (bt (aY hp (b7 [])) ν (some (Ent.arr e .may c'))) rfl;rw [bt] at this;exact this⟩
              · obtain ⟨cap,rest,r1,r2,r3,r4⟩:=eU (ty:=ty) (base:=none) (n:=0) (cp:=0) (L0:=[]) hu hok rfl (fun w' _=>by simp [Builtin.firstCells]) g2 (by omega) (by omega)
                rw [Nat.zero_add] at r1 r3 r4
                refine ⟨_,_,r4,eT H (fz:=[]) (fun x hx=>by cases hx) ⟨rfl,rfl,rfl,rfl⟩ (.at w.heap.size 0 V'.len cap V'.wd) rfl (fun ν hν E=>gp p1 p2 _ rfl (by omega) r2 ?_ fun i hi j hj=>?_) (fun ν=>?_)⟩
                · rw [hwd'];simp only [Array.size_append,List.size_toArray,r3,g1,List.length_nil,Nat.zero_add,← Nat.add_mul];congr 1;omega
                · rw [p3,hve0,Nat.zero_add] at hi
                  have hj : j < te.size:=by omega
                  have hq:=fR hi hj
                  rw [show i * V'.wd + j = i * te.size + j by rw [hwd']]
                  obtain ⟨Vd,hVd⟩ : ∃ Vd,cd.view = some Vd:=by
                   cases hcv : cd.view with
                   | none => exfalso; cases cd <;> simp_all [dP]
                   | some Vd => exact ⟨Vd, rfl⟩
                  refine ⟨L.getD (i * te.size + j) undef,?_,?_⟩
                  · have hin : i * te.size + j < L.length:=by omega
                    rw [Array.getElem?_append,if_pos (by simpa using hin)]
                    simp [List.getD_eq_getElem?_getD,hin]
                  · have:=(g3 Vd hVd i hi j hj).mono E.bl E.sz
                    have e2:=(p6 Vd hVd).2 i j hi
                    rw [hve0,Nat.zero_add] at e2
                    rw [e2];exact this
                · have:=AVC.sl (φ:=upd φ ν (.at w.heap.size 0 V'.len cap V'.wd)) (w:=w.drew.alloc (.cells (([] : List Value).toArray ++ L.toArray ++ rest) e)) (bt (aY hp (b7 [])) ν (some (Ent.arr e .may c'))) rfl
                  rw [bt,show (Loc.at w.heap.size 0 V'.len cap V'.wd).val = .slice (some ⟨w.heap.size,0,none⟩) m cap by rw [p3,hve0,Nat.zero_add];rfl] at this
                  exact this
            · cases h
           ·
            rename_i ν0
            split at h
            · rename_i T' nn c he
              split at h
              · rename_i V c' hv hcat
                split at h
                · rename_i hTe
                  obtain ⟨rfl,hwd⟩:=hTe
                  injection h with h;subst h
                  have hc' : V.len + m ≤ 137438953472:=hc
                  obtain rfl:=fh ha he
                  obtain ⟨_,hV0,hcnn,hent⟩:=H.ent ν0 _ he
                  rw [hv] at hV0;injection hV0 with hV0;subst hV0
                  obtain ⟨V',p1,p2,p3,p4,p5,p6⟩:=jG hv hcnn hcat hm
                  obtain ⟨L,g1,g2,g3,g4,sa,cp,rfl⟩:=jJ (P:=P) (wd:=te.size) H hcd hm hb (fun Vd hVd=>by rw [(p6 Vd hVd).1,hwd])
                  obtain ⟨L0,k1,k2,k3,k4,sb,cq,k5⟩:=jI (P:=P) H he hv
                  have hwd' : V'.wd = te.size:=by rw [p4,hwd]
                  have hlive : jq hp ν0:=⟨_,he,by simp [Ent.kind]⟩
                  have hfz : ∀ x,x ∈ [ν0] → ∃ e,hp x = some e ∧ e.kind = 1:=fun x hx=>by simp at hx;subst hx;exact ⟨_,he,rfl⟩
                  have hview : 0 < m → ∃ Vd,cd.view = some Vd:=fun hpos=>by
                   cases hcv : cd.view with
                   | none => exfalso; cases cd <;> simp_all [dP]
                   | some Vd => exact ⟨Vd, rfl⟩
                  rcases hent with ⟨q0,q1,q2⟩|⟨g,o,cq',cur,q0,q1,q2,q3,q4,qh,q5⟩
                  · by_cases hm0 : m = 0
                    · subst hm0
                      have hL0 : L = []:=List.eq_nil_of_length_eq_zero (by omega)
                      subst hL0
                      refine ⟨_,w,by rw [q0];exact gn hu hok rfl g2,?_⟩
                      intro ν hl hn hf
                      match ν,hl with
                      | [ν], _ =>
                        have hν:=hf ν (by simp)
                        obtain ⟨h1,h2⟩:=H.put hν (fz:=[ν0]) hfz (loc:=.nil) (e:=.arr T' nn c') H.fr (Nat.le_refl _) (fun g hg=>by cases hg) (fun b hb hne=>rfl) (fun E=>⟨V',p1,p2,.inl ⟨rfl,by omega,q2⟩⟩)
                        exact ⟨_,h1,h2,by have:=AVC.sl (φ:=upd φ ν .nil) (w:=w) (bt (aY hp (b7 [ν0])) ν (some (Ent.arr T' nn c'))) rfl;rw [bt] at this;exact this⟩
                    · have hq0 : (φ ν0).val = .slice none 0 0:=by rw [q0];rfl
                      obtain ⟨cap,rest,r1,r2,r3,r4⟩:=eU (ty:=ty) (base:=none) (n:=0) (cp:=0) (L0:=[]) hu hok rfl (fun w' _=>by simp [Builtin.firstCells]) g2 (by omega) (by omega)
                      rw [Nat.zero_add] at r1 r3 r4
                      refine ⟨_,_,by rw [hq0];exact r4,eT (w1:=w.drew) H (fz:=[ν0]) hfz ⟨rfl,rfl,rfl,rfl⟩ (.at w.heap.size 0 V'.len cap V'.wd) rfl (fun ν hν E=>gp p1 p2 _ rfl (by omega) r2 ?_ fun i hi j hj=>?_) (fun ν=>?_)⟩
                      · rw [hwd'];simp only [Array.size_append,List.size_toArray,r3,g1,List.length_nil,Nat.zero_add,← Nat.add_mul];congr 1;omega
                      · rw [p3,q1,Nat.zero_add] at hi
                        have hj : j < te.size:=by omega
                        have hq:=fR hi hj
                        rw [show i * V'.wd + j = i * te.size + j by rw [hwd']]
                        obtain ⟨Vd,hVd⟩:=hview (by omega)
                        refine ⟨L.getD (i * te.size + j) undef,?_,?_⟩
                        · have hin : i * te.size + j < L.length:=by omega
                          rw [Array.getElem?_append,if_pos (by simpa using hin)]
                          simp [List.getD_eq_getElem?_getD,hin]
                        · have:=(g3 Vd hVd i hi j hj).mono E.bl E.sz
                          have e2:=(p6 Vd hVd).2 i j hi
                          rw [q1,Nat.zero_add] at e2
                          rw [e2];exact this
                      · have:=AVC.sl (φ:=upd φ ν (.at w.heap.size 0 V'.len cap V'.wd)) (w:=w.drew.alloc (.cells (([] : List Value).toArray ++ L.toArray ++ rest) T')) (bt (aY hp (b7 [ν0])) ν (some (Ent.arr T' nn c'))) rfl
                        rw [bt,show (Loc.at w.heap.size 0 V'.len cap V'.wd).val = .slice (some ⟨w.heap.size,0,none⟩) m cap by rw [p3,q1,Nat.zero_add];rfl] at this
                        exact this
                  · have hval : (φ ν0).val = .slice (some ⟨g,o,none⟩) V.len cq':=by rw [q0];rfl
                    have hlg : lo ≤ g:=H.lo ν0 g hlive (by rw [q0];rfl)
                    by_cases hroom : V.len + m ≤ cq'
                    · have hcapw : (V.len + m) * te.size ≤ cq' * te.size:=Nat.mul_le_mul_right _ hroom
                      rw [Nat.add_mul] at hcapw
                      rw [hwd] at q4 qh
                      refine ⟨_,_,by rw [hval];exact kt hu hok rfl g1 g2 g4 q1 hroom (by omega),?_⟩
                      intro ν hl hn hf
                      match ν,hl with
                      | [ν], _ =>
                        have hν:=hf ν (by simp)
                        obtain ⟨o1,o2,o3,o4,o5⟩:=dd g L (o + V.len * te.size) w
                        obtain ⟨cur',s1,s2,s3⟩:=dR g T' L (o + V.len * te.size) w cur q1 (by omega)
                        obtain ⟨h1,h2⟩:=H.put hν (fz:=[ν0]) hfz (loc:=.at g o V'.len cq' V'.wd) (e:=.arr T' nn c') (w':=w.setCells g (o + V.len * te.size) L) (dS H.fr hlg) (by rw [o1];exact Nat.le_refl _) (fun g' hg'=>.inr ⟨ν0,by simp,hlive,by rw [q0];exact hg'⟩) (fun b hb hne=>o2 b fun e=>hne (by rw [e];rfl)) (fun E=>by
                         refine ⟨V',p1,p2,.inr ⟨g,o,cq',cur',rfl,s1,by omega,q3,by rw [hwd',s2];exact q4,(fun e=>by rw [hwd',s2];exact qh e),fun k hk q hq=>?_⟩⟩
                         rw [p3] at hk
                         have hq : q < te.size:=by omega
                         rw [show k * V'.wd + q = k * te.size + q by rw [hwd']]
                         rw [s3]
                         by_cases hkl : k < V.len
                         · have hq':=fR hkl hq
                           rw [if_neg (by omega)]
                           obtain ⟨v,t1,t2⟩:=q5 k hkl q (by omega)
                           rw [hwd] at t1
                           exact ⟨v,t1,by rw [p5 k q hkl];exact t2.mono E.bl E.sz⟩
                         · obtain ⟨k',rfl⟩ : ∃ k',k = V.len + k':=⟨k - V.len,by omega⟩
                           have hk' : k' < m:=by omega
                           have hq':=fR hk' hq
                           rw [Nat.add_mul,if_pos (by omega),show o + (V.len * te.size + k' * te.size + q) - (o + V.len * te.size) = k' * te.size + q by omega]
                           obtain ⟨Vd,hVd⟩:=hview (by omega)
                           have hin : k' * te.size + q < L.length:=by omega
                           refine ⟨_,List.getElem?_eq_getElem hin,?_⟩
                           have:=(g3 Vd hVd k' hk' q hq).mono E.bl E.sz
                           rw [bI hin] at this
                           rw [(p6 Vd hVd).2 k' q hk'];exact this)
                        refine ⟨_,h1,h2,?_⟩
                        have:=AVC.sl (φ:=upd φ ν (.at g o V'.len cq' V'.wd)) (w:=w.setCells g (o + V.len * te.size) L) (bt (aY hp (b7 [ν0])) ν (some (Ent.arr T' nn c'))) rfl
                        rw [bt,show (Loc.at g o V'.len cq' V'.wd).val = .slice (some ⟨g,o,none⟩) (V.len + m) cq' by rw [p3];rfl] at this
                        exact this
                    · obtain ⟨cap,rest,r1,r2,r3,r4⟩:=eU (ty:=ty) (base:=some ⟨g,o,none⟩) (n:=V.len) (cp:=cq') (L0:=L0) hu hok rfl (fun w' hw'=>by have:=k2 w' hw';rw [hwd,hval] at this;exact this) g2 (by omega) hc'
                      refine ⟨_,_,by rw [hval];exact r4,eT (w1:=w.drew) H (fz:=[ν0]) hfz ⟨rfl,rfl,rfl,rfl⟩ (.at w.heap.size 0 V'.len cap V'.wd) rfl (fun ν hν E=>gp p1 p2 _ rfl (by omega) r2 ?_ fun k hk q hq=>?_) (fun ν=>?_)⟩
                      · rw [hwd'];simp only [Array.size_append,List.size_toArray,r3,g1,k1,hwd,← Nat.add_mul];congr 1;omega
                      · rw [p3] at hk
                        have hq : q < te.size:=by omega
                        rw [show k * V'.wd + q = k * te.size + q by rw [hwd']]
                        rw [hwd] at k1 k3
                        by_cases hkl : k < V.len
                        · have hq':=fR hkl hq
                          refine ⟨L0.getD (k * te.size + q) undef,?_,?_⟩
                          · have hin : k * te.size + q < L0.length:=by omega
                            rw [Array.getElem?_append,if_pos (by simp;omega),Array.getElem?_append,if_pos (by simpa using hin)]
                            simp [List.getD_eq_getElem?_getD,hin]
                          · rw [p5 k q hkl];exact (k3 k hkl q hq).mono E.bl E.sz
                        · obtain ⟨k',rfl⟩ : ∃ k',k = V.len + k':=⟨k - V.len,by omega⟩
                          have hk' : k' < m:=by omega
                          have hq':=fR hk' hq
                          obtain ⟨Vd,hVd⟩:=hview (by omega)
                          have hin : k' * te.size + q < L.length:=by omega
                          refine ⟨L.getD (k' * te.size + q) undef,?_,?_⟩
                          · rw [Nat.add_mul,Array.getElem?_append,if_pos (by simp;omega),Array.getElem?_append,if_neg (by simp;omega)]
                            simp only [List.size_toArray,List.getElem?_toArray,k1]
                            rw [show V.len * te.size + k' * te.size + q - V.len * te.size = k' * te.size + q by omega]
                            simp [List.getD_eq_getElem?_getD,hin]
                          · rw [(p6 Vd hVd).2 k' q hk'];exact (g3 Vd hVd k' hk' q hq).mono E.bl E.sz
                      · have:=AVC.sl (φ:=upd φ ν (.at w.heap.size 0 V'.len cap V'.wd)) (w:=w.drew.alloc (.cells (L0.toArray ++ L.toArray ++ rest) T')) (bt (aY hp (b7 [ν0])) ν (some (Ent.arr T' nn c'))) rfl
                        rw [bt,show (Loc.at w.heap.size 0 V'.len cap V'.wd).val = .slice (some ⟨w.heap.size,0,none⟩) (V.len + m) cap by rw [p3];rfl] at this
                        exact this
                · cases h
              · cases h
            · cases h
           · cases h
         · cases h
       · cases h
     · cases h
   · cases h
 · cases h
end
end Go.Proofs.Ytlodllmpndflcaa
namespace Go.Proofs.Ytlodllmpndflcaa
set_option linter.unusedVariables false
set_option linter.unusedSimpArgs false
open Go.RowKit
section
variable {P : Program} {ti : TI} {φ : Nat → Loc} {hp : Hp} {lo : Nat} {w0 w : World}
theorem ku {T e : TypeId} {te : TInfo} {i : TypeInfo} {z : Value} {d : TypeDesc} (hu : P.underlying T = some (.slice e)) (hok : TOk P e te i z d) {sa : Option Addr} {n cp : Nat} {lo hi : Option AV} {vlo vhi : Option Value} {l h : Int}
  (hlo : gM 0 lo = some l) (hhi : gM n hi = some h) (h1 : ∀ a,lo = some a → ∃ v,vlo = some v ∧ AVC φ hp w a v) (h1' : lo = none → vlo = none) (h2 : ∀ a,hi = some a → ∃ v,vhi = some v ∧ AVC φ hp w a v) (h2' : hi = none → vhi = none)
  (hb : 0 ≤ l ∧ l ≤ h ∧ h ≤ n) (hcp : n ≤ cp) :
  (Instr.sliceAt T (.slice sa n cp) vlo vhi none).run P w = .ok (.slice (if cp = l.toNat then sa else sa.map (·.add (l.toNat * te.size))) (h.toNat - l.toNat) (cp - l.toNat)) w:=by
 obtain ⟨b1,b2,b3⟩:=hb
 have hn : (h.toNat : Int) = h:=Int.toNat_of_nonneg (by omega)
 have key : (Instr.sliceBounds true n cp vlo vhi none).run P w = .ok (l.toNat,h.toNat,cp) w:=by
  have ehi : ∃ kh,(vhi = some (.int kh h)) ∨ (vhi = none ∧ h = n):=by
   cases hi with
   | none => simp only [gM, Option.some.injEq] at hhi; exact ⟨.i64, .inr ⟨h2' rfl, hhi.symm⟩⟩
   | some a =>
     obtain ⟨v,e,hv⟩:=h2 a rfl
     cases a <;> try (simp [gM] at hhi;done)
     rename_i c
     cases c <;> simp [gM] at hhi
     subst hhi
     obtain rfl:=ce hv
     exact ⟨_,.inl e⟩
  have elo : ∃ kl,(vlo = some (.int kl l)) ∨ (vlo = none ∧ l = 0):=by
   cases lo with
   | none => simp only [gM, Option.some.injEq] at hlo; exact ⟨.i64, .inr ⟨h1' rfl, hlo.symm⟩⟩
   | some a =>
     obtain ⟨v,e,hv⟩:=h1 a rfl
     cases a <;> try (simp [gM] at hlo;done)
     rename_i c
     cases c <;> simp [gM] at hlo
     subst hlo
     obtain rfl:=ce hv
     exact ⟨_,.inl e⟩
  obtain ⟨kh,rfl|⟨rfl,eh⟩⟩:=ehi <;> obtain ⟨kl,rfl|⟨rfl,el⟩⟩:=elo
  · simp [Instr.sliceBounds,run_sliceBound w kh h cp _ (by omega) (by omega),run_sliceBound w kl l h.toNat _ (by omega) (by omega)]
  · subst el;simp [Instr.sliceBounds,run_sliceBound w kh h cp _ (by omega) (by omega)]
  · subst eh;simp [Instr.sliceBounds,run_sliceBound w kl l n _ (by omega) (by omega)]
  · subst el eh;simp [Instr.sliceBounds]
 simp [Instr.sliceAt,run_underlying hu,Instr.slice,key,sizeOf,typeInfo,hok.info,hok.size]
theorem kv (hT : cP P ti) (H : HC φ hp lo w0 w) {T : TypeId} {a : AV} {u : Value} {l h : Option AV} {vl vh : Option Value} {E : Eff} (hE : fV ti hp T a l h = some E) (hc : E.cond) (ha : AVC φ hp w a u)
  (h1 : ∀ a,l = some a → ∃ v,vl = some v ∧ AVC φ hp w a v) (h1' : l = none → vl = none) (h2 : ∀ a,h = some a → ∃ v,vh = some v ∧ AVC φ hp w a v) (h2' : h = none → vh = none) : Okv P φ hp lo w0 w E (Instr.sliceAt T u vl vh none):=by
 unfold fV at hE
 split at hE
 · rename_i t ht
   obtain ⟨_,_,_,hok0⟩:=hT T t ht
   split at hE
   · rename_i e hsh
     have hd:=hok0.sh
     rw [hsh] at hd
     simp only [fg] at hd
     have hu:=hok0.und
     rw [hd] at hu
     split at hE
     · rename_i te hte
       obtain ⟨i,z,d,hok⟩:=hT e te hte
       split at hE
       · rename_i c
         split at hE
         · rename_i V hv
           split at hE
           · rename_i x y hx hy
             split at hE
             · rename_i hwd
               split at hE
               · rename_i c' hsub
                 have hc' : 0 ≤ x ∧ x ≤ y ∧ y ≤ V.len:=by injection hE with hE;subst hE;exact hc
                 have hr:=cJ ha
                 obtain ⟨V',p1,p2,p3,p4,p5⟩:=jF hv (l:=x.toNat) (h:=y.toNat) (by omega) (by omega) hsub
                 cases hr with
                 | int => cases hv
                 | bool => cases hv
                 | nul => cases hv
                 | @sl _ V0 sa cp vs hv' hn hcc hm h0 hs cell rec =>
                   rw [hv] at hv';injection hv' with hv';subst hv'
                   refine dQ H hE (ku hu hok hx hy h1 h1' h2 h2' hc' hcc) ?_
                   refine .c ?_
                   rw [← p3]
                   have hpos : 0 < V'.len → ¬ cp = x.toNat:=by intro hp0;omega
                   refine .sl (vs:=fun i j=>vs (x.toNat + i) j) p1 (fun e=>by rw [p2] at e;cases e) (by omega) (by omega) (fun e=>?_) (fun ad e hl=>?_) (fun ad e i hi j hj=>?_) (fun i hi j hj=>?_)
                   · have : sa = none:=by
                      split at e
                      · exact e
                      · cases sa with
                        | none => rfl
                        | some _ => cases e
                     have:=h0 this
                     omega
                   · rw [if_neg (hpos hl)] at e
                     cases sa with
                     | none => cases e
                     | some a0 =>
                       obtain ⟨s1,s2,s3⟩:=hs a0 rfl (by omega)
                       obtain ⟨b0,o0,sp⟩:=a0
                       simp only at s1;subst s1
                       simp only [Option.map_some,fj,Option.some.injEq] at e
                       subst e
                       exact ⟨rfl,s2,s3⟩
                   · rw [if_neg (hpos (by omega))] at e
                     cases sa with
                     | none => cases e
                     | some a0 =>
                       obtain ⟨s1,s2,s3⟩:=hs a0 rfl (by omega)
                       obtain ⟨b0,o0,sp⟩:=a0
                       simp only at s1;subst s1
                       simp only [Option.map_some,fj,Option.some.injEq] at e
                       subst e
                       have:=cell _ rfl (x.toNat + i) (by omega) j (by omega)
                       simp only at this ⊢
                       rw [← this,← hwd,p4,Nat.add_mul,Nat.add_assoc,Nat.add_assoc]
                   · rw [p5 i j (by omega)];exact rec _ (by omega) _ (by omega)
               · cases hE
             · cases hE
           · cases hE
         · cases hE
       · rename_i ν0
         split at hE
         · rename_i T' nn c he
           split at hE
           · rename_i V hv
             split at hE
             · rename_i x y hx hy
               split at hE
               · rename_i hwd
                 split at hE
                 · rename_i c' hsub
                   injection hE with hE;subst hE
                   have hc' : 0 ≤ x ∧ x ≤ y ∧ y ≤ V.len:=hc
                   obtain rfl:=fh ha he
                   obtain ⟨V',p1,p2,p3,p4,p5⟩:=jF hv (l:=x.toNat) (h:=y.toNat) (by omega) (by omega) hsub
                   obtain ⟨_,hV0,hcnn,hent⟩:=H.ent ν0 _ he
                   rw [hv] at hV0;injection hV0 with hV0;subst hV0
                   have hlive : jq hp ν0:=⟨_,he,by simp [Ent.kind]⟩
                   have hfz : ∀ x,x ∈ [ν0] → ∃ e,hp x = some e ∧ e.kind = 1:=fun x hx=>by simp at hx;subst hx;exact ⟨_,he,rfl⟩
                   rcases hent with ⟨q0,q1,q2⟩|⟨g,o,cq,cur,q0,q1,q2,q3,q4,qh,q5⟩
                   · have hval : (φ ν0).val = .slice none V.len 0:=by rw [q0,q1];rfl
                     refine ⟨_,w,by rw [hval];exact ku hu hok hx hy h1 h1' h2 h2' hc' (by omega),?_⟩
                     intro ν hl hn hf
                     match ν,hl with
                     | [ν], _ =>
                       have hν:=hf ν (by simp)
                       obtain ⟨g1,g2⟩:=H.put hν (fz:=[ν0]) hfz (loc:=.nil) (e:=.arr T' ⟨nn.nn,nn.hd && x == 0⟩ c') H.fr (Nat.le_refl _) (fun g hg=>by cases hg) (fun b hb hne=>rfl) (fun E=>⟨V',p1,p2,.inl ⟨rfl,by omega,q2⟩⟩)
                       refine ⟨_,g1,g2,?_⟩
                       have:=AVC.sl (φ:=upd φ ν .nil) (w:=w) (bt (aY hp (b7 [ν0])) ν (some (Ent.arr T' ⟨nn.nn,nn.hd && x == 0⟩ c'))) rfl
                       rw [bt] at this
                       have e1 : x.toNat = 0:=by omega
                       have e2 : y.toNat = 0:=by omega
                       rw [e1,e2]
                       exact this
                   · have hval : (φ ν0).val = .slice (some ⟨g,o,none⟩) V.len cq:=by rw [q0];rfl
                     refine ⟨_,w,by rw [hval];exact ku hu hok hx hy h1 h1' h2 h2' hc' q2,?_⟩
                     intro ν hl hn hf
                     match ν,hl with
                     | [ν], _ =>
                       have hν:=hf ν (by simp)
                       have hmul : x.toNat * V.wd + (cq - x.toNat) * V.wd = cq * V.wd:=by rw [← Nat.add_mul];congr 1;omega
                       obtain ⟨g1,g2⟩:=H.put hν (fz:=[ν0]) hfz (loc:=.at g (if cq = x.toNat then o else o + x.toNat * te.size) (y.toNat - x.toNat) (cq - x.toNat) V.wd) (e:=.arr T' ⟨nn.nn,nn.hd && x == 0⟩ c') H.fr (Nat.le_refl _) (fun g' hg'=>.inr ⟨ν0,by simp,hlive,by rw [q0];exact hg'⟩) (fun b hb hne=>rfl) (fun E=>by
                        refine ⟨V',p1,p2,.inr ⟨g,_,_,cur,by rw [p3,p4],q1,by omega,by omega,?_,(fun e=>?_),fun i hi j hj=>?_⟩⟩
                        · rw [p4]
                          by_cases hcq : cq = x.toNat
                          · rw [if_pos hcq,hcq,Nat.sub_self,Nat.zero_mul];omega
                          · rw [if_neg hcq,← hwd];omega
                        · simp only [Bool.and_eq_true,beq_iff_eq] at e
                          obtain ⟨e1,e2⟩:=qh e.1
                          rw [e.2,p4]
                          simp only [Int.toNat_zero,Nat.zero_mul,Nat.add_zero,Nat.sub_zero,ite_self]
                          exact ⟨e1,e2⟩
                        · rw [p3] at hi
                          rw [p4] at hj ⊢
                          obtain ⟨v,t1,t2⟩:=q5 (x.toNat + i) (by omega) j hj
                          refine ⟨v,?_,by rw [p5 i j hi];exact t2.mono E.bl E.sz⟩
                          rw [show (if cq = x.toNat then o else o + x.toNat * te.size) = o + x.toNat * te.size from if_neg (by omega)]
                          rw [← t1,← hwd,Nat.add_mul,Nat.add_assoc,Nat.add_assoc])
                       refine ⟨_,g1,g2,?_⟩
                       have:=AVC.sl (φ:=upd φ ν (.at g (if cq = x.toNat then o else o + x.toNat * te.size) (y.toNat - x.toNat) (cq - x.toNat) V.wd)) (w:=w) (bt (aY hp (b7 [ν0])) ν (some (Ent.arr T' ⟨nn.nn,nn.hd && x == 0⟩ c'))) rfl
                       rw [bt] at this
                       have e1 : (if cq = x.toNat then (some ⟨g,o,none⟩ : Option Addr) else (some ⟨g,o,none⟩ : Option Addr).map (·.add (x.toNat * te.size))) = some ⟨g,if cq = x.toNat then o else o + x.toNat * te.size,none⟩:=by
                        by_cases hcq : cq = x.toNat
                        · rw [if_pos hcq,if_pos hcq]
                        · rw [if_neg hcq,if_neg hcq];simp [fj]
                       rw [e1]
                       exact this
                 · cases hE
               · cases hE
             · cases hE
           · cases hE
         · cases hE
       · cases hE
     · cases hE
   · cases hE
 · cases hE
end
end Go.Proofs.Ytlodllmpndflcaa
namespace Go.Proofs.Ytlodllmpndflcaa
set_option linter.unusedVariables false
set_option linter.unusedSimpArgs false
open Go.RowKit
theorem mf {n : Nat} {z : List C} {em c' : C} {Ve : View} (hv : em.view = some Ve) (h : nb n z em = some c') :
  ∃ V',c'.view = some V' ∧ c'.isNN = false ∧ V'.len = n ∧ V'.wd = Ve.wd ∧ ∀ i j,i < n → j < Ve.wd → ∀ (O : Nat → Prop) w v,Rd O w (z.getD j .nul) v → Rd O w (V'.at' i j) v:=by
 unfold nb at h
 split at h
 · simp only [C.view,Option.some.injEq] at hv h;subst hv h
   refine ⟨_,rfl,rfl,by simp,rfl,fun i j hi hj O w v hr=>?_⟩
   have : j = 0:=by simp only at hj;omega
   subst this;simp only [gi,gm hi];exact hr
 · simp only [C.view,Option.some.injEq] at hv h;subst hv h
   refine ⟨_,rfl,rfl,by simp,rfl,fun i j hi hj O w v hr=>?_⟩
   have : j = 0:=by simp only at hj;omega
   subst this;simp only [gb,gm hi];exact hr
 · simp only [C.view,Option.some.injEq] at hv h;subst hv h
   refine ⟨_,rfl,rfl,by simp,rfl,fun i j hi hj O w v hr=>?_⟩
   have : j = 0:=by simp only at hj;omega
   subst this;simp only [gr,gm hi];exact me (c:=.nul) rfl hr
 · rename_i wd es
   split at h
   · rename_i hl
     simp only [C.view] at hv
     split at hv
     · rename_i hwd
       simp only [Option.some.injEq] at hv h;subst hv h
       exact ⟨⟨(List.replicate n z).length,wd,fun i j=>((List.replicate n z).getD i []).getD j .nul⟩,by simp [C.view,hwd],rfl,by simp,rfl,fun i j hi hj O w v hr=>by simp only [gm hi];exact hr⟩
     · cases hv
   · cases h
 · cases h
theorem lq {l : List AV} {z : List C} (h : fS l = some z) : z.length = l.length ∧ ∀ j,j < l.length → l.getD j .any = .c (z.getD j .nul):=by
 induction l generalizing z with
 | nil => simp only [fS, Option.some.injEq] at h; subst h; exact ⟨rfl, fun j hj => by simp at hj⟩
 | cons a l ih =>
   cases a <;> try (simp only [fS,reduceCtorEq] at h;done)
   rename_i c
   simp only [fS] at h
   split at h
   · rename_i cs hcs
     simp only [Option.some.injEq] at h;subst h
     obtain ⟨h1,h2⟩:=ih hcs
     exact ⟨by simp [h1],fun j hj=>by
      cases j with
      | zero => rfl
      | succ j => simpa using h2 j (by simp at hj; omega)⟩
   · cases h
section
variable {P : Program} {ti : TI} {φ : Nat → Loc} {hp : Hp} {lo : Nat} {w0 w : World}
theorem lr (hT : cP P ti) (H : HC φ hp lo w0 w) {T : TypeId} {a b : AV} {u v : Value} {E : Eff} (h : nc ti T a b = some E) (hc : E.cond) (ha : AVC φ hp w a u) (hb : AVC φ hp w b v) : Okv P φ hp lo w0 w E (Instr.makeSlice T u v):=by
 unfold nc at h
 split at h
 · rename_i t k n k' n' ht
   obtain ⟨_,_,_,hok0⟩:=hT T t ht
   obtain rfl:=ce ha
   obtain rfl:=ce hb
   split at h
   · rename_i e hsh
     have hd:=hok0.sh
     rw [hsh] at hd
     simp only [fg] at hd
     have hu:=hok0.und
     rw [hd] at hu
     split at h
     · rename_i te hte
       obtain ⟨i,z,d,hok⟩:=hT e te hte
       split at h
       · rename_i em zc hem hz
         obtain ⟨emn,Ve,hve,hve0,hvew⟩:=hok.em em hem
         split at h
         · rename_i c' hzc
           injection h with h;subst h
           obtain ⟨c1,c2,c3⟩:=hc
           have c1 : 0 ≤ n:=c1
           have c2 : n ≤ 1048576:=c2
           have c3 : n' = n:=c3
           subst c3
           obtain ⟨V',p1,p2,p3,p4,p5⟩:=mf hve hzc
           obtain ⟨z1,z2⟩:=lq hz
           have hby:=hok.bytes
           have hmul : (i.bytes : Int) * n' ≤ 1024 * 1048576:=Int.mul_le_mul (by omega) c2 c1 (by omega)
           have hr:=run_make (P:=P) w T e i z hu hok.info hok.zero k k' n' n' c1 (Int.le_refl _) (by omega) (by omega)
           have hwd' : V'.wd = te.size:=by rw [p4,hvew]
           refine ⟨_,_,hr,eT H (fz:=[]) (fun x hx=>by cases hx) (fD w) (.at w.heap.size 0 V'.len n'.toNat V'.wd) rfl (fun ν hν E=>gp p1 p2 _ rfl (by omega) (by omega) ?_ fun a ha b hb=>?_) (fun ν=>?_)⟩
           · rw [size_madeCells,hok.size,hwd']
           · rw [p3] at ha
             have hb' : b < te.size:=by omega
             have hq:=fR ha hb'
             have hzl : z.cells.size = te.size:=by rw [hok.zlen,hok.zlen2]
             refine ⟨z.cells.getD b undef,?_,?_⟩
             · rw [hwd',hok.size]
               simp only [madeCells,Array.getElem?_map,Array.getElem?_range,hq,↓reduceIte,Option.map_some,hzl,(iX (i:=a) hb').2]
               simp [Array.getD_eq_getD_getElem?,show b < z.cells.size by omega]
             · have hzv:=hok.zval b (by rw [hok.zlen2];exact hb') (upd φ ν (.at w.heap.size 0 V'.len n'.toNat V'.wd)) (upd (aY hp (b7 [])) ν (some (.arr e .yes c'))) (w.alloc (.cells (madeCells z.cells (n'.toNat * i.size)) e))
               rw [z2 b (by rw [hok.zlen2];exact hb')] at hzv
               exact p5 a b ha (by omega) _ _ _ (cJ hzv)
           · have:=AVC.sl (φ:=upd φ ν (.at w.heap.size 0 V'.len n'.toNat V'.wd)) (w:=w.alloc (.cells (madeCells z.cells (n'.toNat * i.size)) e)) (bt (aY hp (b7 [])) ν (some (Ent.arr e .yes c'))) rfl
             rw [bt,show (Loc.at w.heap.size 0 V'.len n'.toNat V'.wd).val = .slice (some ⟨w.heap.size,0,none⟩) n'.toNat n'.toNat by rw [p3];rfl] at this
             exact this
         · cases h
       · cases h
     · cases h
   · cases h
 · cases h
theorem pw {size : Nat} : ∀ (qs : List (Nat × Value)) (s : Nat) (cs : Array Value),(∀ j,j < qs.length → (qs.getD j (0,undef)).1 = s + j ∧ (qs.getD j (0,undef)).2.cells.size = size) → (s + qs.length) * size ≤ cs.size →
  ∃ cs',Instr.fill (fun i=>some (i * size,size)) cs qs = some cs' ∧ cs'.size = cs.size ∧ (∀ k,k < s * size → cs'.getD k undef = cs.getD k undef) ∧ ∀ j,j < qs.length → ∀ q,q < size → cs'.getD ((s + j) * size + q) undef = (qs.getD j (0,undef)).2.cells.getD q undef:=by
 intro qs
 induction qs with
 | nil => intro s cs _ _; exact ⟨cs, rfl, rfl, fun _ _ => rfl, fun j hj => by simp at hj⟩
 | cons p qs ih =>
   intro s cs h hl
   obtain ⟨i,v⟩:=p
   obtain ⟨e1,e2⟩:=h 0 (by simp)
   simp only [List.getD_cons_zero,Nat.add_zero] at e1 e2
   subst e1
   have hm : (i + (qs.length + 1)) * size = i * size + size + qs.length * size:=by rw [Nat.add_mul,Nat.add_mul,Nat.one_mul];omega
   simp only [List.length_cons] at hl
   have hlay:=lj (i * size) v.cells.toList 0 cs (by simp;omega)
   obtain ⟨cs',g1,g2,g3,g4⟩:=ih (i + 1) (lay cs (i * size) (v.cells.toList.zipIdx 0)) (fun j hj=>by have:=h (j + 1) (by simp;omega);simp only [List.getD_cons_succ] at this;exact ⟨by omega,this.2⟩) (by rw [hlay.1,Nat.add_mul,Nat.add_mul,Nat.one_mul];omega)
   refine ⟨cs',?_,by rw [g2,hlay.1],fun k hk=>?_,fun j hj q hq=>?_⟩
   · simp only [Instr.fill]
     rw [if_neg (by simp;omega),← g1]
     congr 1
     rw [← Array.foldl_toList]
     simp only [lay]
     congr 1
     simp
   · rw [g3 k (by rw [Nat.add_mul];omega),hlay.2 k,if_neg (by omega)]
   · cases j with
     | zero =>
       simp only [Nat.add_zero,List.getD_cons_zero]
       rw [g3 _ (by rw [Nat.add_mul,Nat.one_mul];omega),hlay.2,if_pos (by simp;omega),show i * size + q - (i * size + 0) = q by omega,← fi]
     | succ j =>
       have:=g4 j (by simp at hj;omega) q hq
       rw [show i + (j + 1) = i + 1 + j by omega,this]
       simp
theorem n8 {l : List AV} {c c' : C} {fz : List Nat} {V : View} (hv : c.view = some V) (hn : c.isNN = false) (h : iq hp c l = some (c',fz)) :
  (∀ x,x ∈ fz → ∃ T nn d,hp x = some (.arr T nn d)) ∧ ∃ V',c'.view = some V' ∧ c'.isNN = false ∧ V'.len = V.len + l.length ∧ V'.wd = V.wd ∧ (∀ i j,i < V.len → V'.at' i j = V.at' i j) ∧
   ∀ k,k < l.length → ∃ cs,(l.getD k .any).cells = some cs ∧ cs.length = V.wd ∧ ∀ j,j < V.wd → ∃ c0 f0,toC hp (cs.getD j .any) = some (c0,f0) ∧ (∀ x,x ∈ f0 → x ∈ fz) ∧ ∀ (O : Nat → Prop) w v,Rd O w c0 v → Rd O w (V'.at' (V.len + k) j) v:=by
 induction l generalizing c fz V with
 | nil =>
   simp only [iq,Option.some.injEq,Prod.mk.injEq] at h
   obtain ⟨rfl,rfl⟩:=h
   exact ⟨fun x hx=>(by cases hx),V,hv,hn,by simp,rfl,fun _ _ _=>rfl,fun k hk=>by simp at hk⟩
 | cons a l ih =>
   simp only [iq] at h
   split at h
   · rename_i cs hcs
     split at h
     · rename_i ds f1 hds
       split at h
       · rename_i c1 happ
         split at h
         · rename_i c2 f2 hb
           simp only [Option.some.injEq,Prod.mk.injEq] at h
           obtain ⟨rfl,rfl⟩:=h
           obtain ⟨V1,a1,a2,a3,a4,a5,a6,a7⟩:=nZ hv hn happ
           obtain ⟨hdom,V',b1,b2,b3,b4,b5,b6⟩:=ih a1 a2 hb
           obtain ⟨d1,d2⟩:=jH hds
           refine ⟨fun x hx=>?_,V',b1,b2,by rw [b3,a3];simp;omega,by rw [b4,a4],fun i j hi=>by rw [b5 i j (by omega),a6 i j hi],fun k hk=>?_⟩
           · rcases List.mem_append.1 hx with hx|hx
             · exact lm hds x hx
             · exact hdom x hx
           · cases k with
             | zero =>
               refine ⟨cs,by simpa using hcs,by omega,fun j hj=>?_⟩
               obtain ⟨f,t1,t2⟩:=d2 j (by omega)
               refine ⟨_,f,t1,fun x hx=>List.mem_append_left _ (t2 x hx),fun O w v hr=>?_⟩
               rw [Nat.add_zero,b5 _ _ (by omega)]
               exact a7 j hj O w v hr
             | succ k =>
               obtain ⟨cs',e1,e2,e3⟩:=b6 k (by simp at hk;omega)
               refine ⟨cs',by simpa using e1,by omega,fun j hj=>?_⟩
               obtain ⟨c0,f0,t1,t2,t3⟩:=e3 j (by omega)
               refine ⟨c0,f0,t1,fun x hx=>List.mem_append_right _ (t2 x hx),fun O w v hr=>?_⟩
               rw [show V.len + (k + 1) = V1.len + k by omega]
               exact t3 O w v hr
         · cases h
       · cases h
     · cases h
   · cases h
theorem gq (hT : cP P ti) (H : HC φ hp lo w0 w) {T : TypeId} {n : Nat} {ps : List (Nat × AV)} {qs : Array (Nat × Value)} {E : Eff} (h : dw ti hp T n ps = some E) (hl : qs.toList.length = ps.length)
  (hq : ∀ j,j < ps.length → (qs.toList.getD j (0,undef)).1 = (ps.getD j (0,.any)).1 ∧ AVC φ hp w (ps.getD j (0,.any)).2 (qs.toList.getD j (0,undef)).2) : Okv P φ hp lo w0 w E (Instr.buildSlice T n qs):=by
 unfold dw at h
 split at h
 · rename_i t ht
   obtain ⟨_,_,_,hok0⟩:=hT T t ht
   split at h
   · rename_i e hsh
     have hd:=hok0.sh
     rw [hsh] at hd
     simp only [fg] at hd
     have hu:=hok0.und
     rw [hd] at hu
     split at h
     · rename_i te hte
       obtain ⟨i,z,d,hok⟩:=hT e te hte
       split at h
       · rename_i em hem
         obtain ⟨emn,Ve,hve,hve0,hvew⟩:=hok.em em hem
         split at h
         · rename_i hcond
           obtain ⟨hidx,hn,hts⟩:=hcond
           split at h
           · rename_i c fz hb
             injection h with h;subst h
             obtain ⟨hdom,V',p1,p2,p3,p4,p5,p6⟩:=n8 hve emn hb
             have hlen : ps.length = n:=by have:=congrArg List.length hidx;simpa using this
             have hwd' : V'.wd = te.size:=by rw [p4,hvew]
             have hwdp:=C.view_wd p1
             rw [hve0,Nat.zero_add,List.length_map,hlen] at p3
             have hpart : ∀ k,k < n → (qs.toList.getD k (0,undef)).1 = k ∧ ∃ cs,((ps.getD k (0,.any)).2).cells = some cs ∧ cs.length = te.size ∧ ∀ j,j < te.size → ∃ c0 f0,toC hp (cs.getD j .any) = some (c0,f0) ∧ (∀ x,x ∈ f0 → x ∈ fz) ∧ ∀ (O : Nat → Prop) w v,Rd O w c0 v → Rd O w (V'.at' k j) v:=by
              intro k hk
              have hk' : k < ps.length:=by omega
              refine ⟨?_,?_⟩
              · rw [(hq k hk').1,bI hk']
                have : (ps.map (·.1))[k]? = (List.range n)[k]?:=by rw [hidx]
                simp [hk',hk] at this
                exact this
              · obtain ⟨cs,e1,e2,e3⟩:=p6 k (by simpa using hk')
                have e0 : (ps.map (·.2)).getD k .any = (ps.getD k (0,.any)).2:=by simp [List.getD_eq_getElem?_getD,hk']
                rw [e0] at e1
                refine ⟨cs,e1,by omega,fun j hj=>?_⟩
                obtain ⟨c0,f0,t1,t2,t3⟩:=e3 j (by omega)
                exact ⟨c0,f0,t1,t2,fun O w v hr=>by have:=t3 O w v hr;rwa [hve0,Nat.zero_add] at this⟩
             have hcells : ∀ k,k < n → (qs.toList.getD k (0,undef)).2.cells.size = te.size:=by
              intro k hk
              obtain ⟨_,cs,e1,e2,_⟩:=hpart k hk
              have:=(ew (hq k (by omega)).2 e1).1
              omega
             obtain ⟨cur,g1,g2,g3,g4⟩:=pw (size:=te.size) qs.toList 0 ((Array.range (n * te.size)).map (z.cells[· % z.cells.size]!)) (fun j hj=>⟨by rw [(hpart j (by omega)).1,Nat.zero_add],hcells j (by omega)⟩) (by simp [hl,hlen])
             have hsz : cur.size = n * te.size:=by rw [g2];simp
             have hbig : ¬ n * te.size > 2 ^ 24:=by
              have:=Nat.mul_le_mul hn hts
              omega
             have hrun : (Instr.buildSlice T n qs).run P w = .ok (.slice (some ⟨w.heap.size,0,none⟩) n n) (w.alloc (.cells cur e)):=by
              by_cases h0 : n * te.size = 0
              · have hn0 : n = 0:=by rcases Nat.mul_eq_zero.1 h0 with h|h <;> omega
                subst hn0
                have hqs : qs = #[]:=by
                 have : qs.toList = []:=List.eq_nil_of_length_eq_zero (by omega)
                 simpa using this
                subst hqs
                have hcur : cur = #[]:=by
                 have : cur.size = 0:=by rw [hsz];omega
                 exact Array.eq_empty_of_size_eq_zero this
                subst hcur
                simp [Instr.buildSlice,run_underlying hu,sizeOf,typeInfo,hok.info,Instr.fill,newRow,newObj,Sem.run]
                rw [show ∀ f : Nat → Value,Array.map f (Array.range 0) = #[] from fun f=>Array.eq_empty_of_size_eq_zero (by simp)]
              · exact run_buildSlice w T e n qs cur i z hu hok.info hok.zero (by rw [hok.size];exact hbig) (by rw [hok.size];exact h0) (by rw [hok.size];exact g1)
             refine ⟨_,_,hrun,?_⟩
             have hfz : ∀ x,x ∈ fz → ∃ e,hp x = some e ∧ e.kind = 1:=fun x hx=>by obtain ⟨_,_,_,e⟩:=hdom x hx;exact ⟨_,e,rfl⟩
             refine eT H (fz:=fz) hfz (fD w) (.at w.heap.size 0 V'.len n V'.wd) rfl (fun ν hν E=>gp p1 p2 _ rfl (by omega) (by omega) (by rw [hwd',hsz]) fun a ha b hb=>?_) (fun ν=>?_)
             · rw [p3] at ha
               have hb' : b < te.size:=by omega
               have hq':=fR ha hb'
               rw [show a * V'.wd + b = a * te.size + b by rw [hwd']]
               obtain ⟨_,cs,e1,e2,e3⟩:=hpart a ha
               obtain ⟨c0,f0,t1,t2,t3⟩:=e3 b hb'
               obtain ⟨c1,c2,c3⟩:=ew (hq a (by omega)).2 e1
               have hval:=g4 a (by omega) b hb'
               rw [Nat.zero_add] at hval
               have hin : a * te.size + b < cur.size:=by omega
               refine ⟨cur.getD (a * te.size + b) undef,by simp [Array.getD_eq_getD_getElem?,hin],?_⟩
               rw [hval]
               refine t3 _ _ _ ?_
               have hνf : ¬ ν ∈ fz:=fun hx=>by obtain ⟨e,he,_⟩:=hfz ν hx;rw [hν] at he;cases he
               refine l5 H t1 (c2 b (by omega)) (fun b0 hb0 hh=>?_) E.sz
               refine ln H (fz:=fz) E (fun x hx=>by rw [cc (fun e=>hνf (by subst e;exact hx)),co,if_pos hx]) (fun x hx hlx b hb=>by rw [Below.heap_alloc _ _ _ (H.lt hlx hb)]) (fun b1 ⟨y,hy1,hy2⟩ hb1=>?_) b0 hb0 (hh.imp id fun ⟨y,y1,y2⟩=>⟨y,t2 y y1,y2⟩)
               by_cases ey : y = ν
               · subst ey;rw [bt] at hy2;simp only [Loc.blk,Option.some.injEq] at hy2;omega
               · unfold cf at hy1;rw [cc ey] at hy1 hy2;have:=eP.1 hy1;exact ⟨y,this.2,hy2,this.1⟩
             · have:=AVC.sl (φ:=upd φ ν (.at w.heap.size 0 V'.len n V'.wd)) (w:=w.alloc (.cells cur e)) (bt (aY hp (b7 fz)) ν (some (Ent.arr e .yes c))) rfl
               rw [bt,show (Loc.at w.heap.size 0 V'.len n V'.wd).val = .slice (some ⟨w.heap.size,0,none⟩) n n by rw [p3];rfl] at this
               exact this
           · cases h
         · cases h
       · cases h
     · cases h
   · cases h
 · cases h
end
end Go.Proofs.Ytlodllmpndflcaa
namespace Go.Proofs.Ytlodllmpndflcaa
set_option linter.unusedVariables false
set_option linter.unusedSimpArgs false
open Go.RowKit
section
variable {P : Program} {ti : TI} {φ : Nat → Loc} {hp : Hp} {lo : Nat} {w0 w : World}
def t7 (P : Program) (φ : Nat → Loc) (hp : Hp) (lo : Nat) (w0 w : World) (E : Eff) (s : Sem Next) : Prop :=
 ∃ r v w',s.run P w = .ok r w' ∧ (r = .value v ∨ (r = .skip ∧ v = undef)) ∧ Out φ hp lo w0 w E.up E.nw E.val v w'
theorem dk {E : Eff} {s : Sem Value} (h : Okv P φ hp lo w0 w E s) : t7 P φ hp lo w0 w E (do pure (.value (← s))):=by
 obtain ⟨v,w',h1,h2⟩:=h
 exact ⟨_,v,w',by simp [h1],.inl rfl,h2⟩
theorem jK (v : Value) : AVC φ hp w (iz v) v:=by
 unfold iz
 split
 · exact .c (.int _ _)
 · exact .c (.bool _)
 · exact .c .nul
 · exact .k _
theorem fE {l : List Operand} {ev : Operand → AV} {ρ : Operand → Value} (hev : ∀ x,AVC φ hp w (ev x) (ρ x)) : (l.map ρ).length = (l.map ev).length ∧ ∀ i,i < (l.map ev).length → AVC φ hp w ((l.map ev).getD i .any) ((l.map ρ).getD i undef):=by
 refine ⟨by simp,fun i hi=>?_⟩
 have hi' : i < l.length:=by simpa using hi
 simp only [List.getD_eq_getElem?_getD,List.getElem?_map,List.getElem?_eq_getElem hi',Option.map_some,Option.getD_some]
 exact hev _
theorem n9 (hT : cP P ti) (H : HC φ hp lo w0 w) {o : Oper} {ev : Operand → AV} {ρ : Operand → Value} {E : Eff} (hev : ∀ x,AVC φ hp w (ev x) (ρ x)) (h : opW ti ev hp o.op = some E) (hc : E.cond) : t7 P φ hp lo w0 w E (execOp ρ o):=by
 unfold execOp
 cases hop : o.op <;> rw [hop] at h <;> simp only [opW,reduceCtorEq] at h <;> simp only
 case move x=>injection h with h;subst h;exact ⟨_,_,w,rfl,.inl rfl,dp H (hev x)⟩
 case assign x=>injection h with h;subst h;exact ⟨_,_,w,rfl,.inl rfl,dp H (hev x)⟩
 case pick c a b =>
  split at h
  · rename_i t ht
    injection h with h;subst h
    have hb:=hev c
    rw [ht] at hb
    have:=et hb
    refine ⟨.value (if t then ρ a else ρ b),_,w,by rw [this];simp [asBool],.inl rfl,dp H ?_⟩
    cases t
    · exact hev b
    · exact hev a
  · cases h
 case alloc T =>
  split at h
  · rename_i t ht
    injection h with h;subst h
    exact dk (kr hT H ht)
  · cases h
 case box T x =>
  split at h
  · rename_i l hl
    injection h with h;subst h
    exact dk (md H hl (hev x))
  · cases h
 case build T parts =>
  refine dk (kq hT H h (by simp) fun j hj=>?_)
  have hj' : j < parts.toList.length:=by simpa using hj
  simp only [Array.toList_map,List.getD_eq_getElem?_getD,List.getElem?_map,List.getElem?_eq_getElem hj',Option.map_some,Option.getD_some]
  exact ⟨trivial,hev _⟩
 case buildSlice T n parts =>
  refine dk (gq hT H h (by simp) fun j hj=>?_)
  have hj' : j < parts.toList.length:=by simpa using hj
  simp only [Array.toList_map,List.getD_eq_getElem?_getD,List.getElem?_map,List.getElem?_eq_getElem hj',Option.map_some,Option.getD_some]
  exact ⟨trivial,hev _⟩
 case load T x=>exact dk (li hT H h hc (hev x))
 case store T x y =>
  obtain ⟨w',h1,h2⟩:=ks hT H h hc (hev x) (hev y)
  exact ⟨.skip,undef,w',by simp [h1],.inr ⟨rfl,rfl⟩,h2⟩
 case nilCheck x =>
  obtain ⟨h1,b,hb⟩:=mc H h (hev x)
  exact ⟨.value (ρ x),_,w,by rw [hb];rfl,.inl rfl,h1⟩
 case binOp op T x y T'=>exact dk (l7 hT H x y h hc (hev x) (hev y))
 case unOp op T x=>exact dk (nX H h (hev x))
 case convert src dst x =>
  split at h
  · rename_i t ht
    obtain ⟨_,_,d,hok⟩:=hT src t ht
    exact dk (lh hT H ⟨d,hok.und⟩ h (hev x))
  · cases h
 case makeFunc fn first cap =>
  split at h
  · rename_i h0
    injection h with h;subst h
    have e : first = #[]:=Array.eq_empty_of_size_eq_zero h0
    subst e
    obtain ⟨cap⟩:=cap
    obtain ⟨m1,m2⟩:=fE (l:=cap) hev
    refine ⟨_,.func fn #[] (cap.map ρ).toArray,w,by simp [Instr.makeFunc],.inl rfl,dp H (.fn m1 m2)⟩
  · cases h
 case makeSlice T l c=>exact dk (lr hT H h hc (hev l) (hev c))
 case slice T x lo hi mx =>
  split at h
  · refine dk (kv hT H h hc (hev x) (fun a ha=>?_) (fun ha=>?_) (fun a ha=>?_) (fun ha=>?_))
    · cases lo with
      | none => cases ha
      | some y => injection ha with ha; subst ha; exact ⟨_, rfl, hev y⟩
    · cases lo with
      | none => rfl
      | some y => cases ha
    · cases hi with
      | none => cases ha
      | some y => injection ha with ha; subst ha; exact ⟨_, rfl, hev y⟩
    · cases hi with
      | none => rfl
      | some y => cases ha
  · cases h
 case fieldAddr T x f=>exact dk (gQ hT H h (hev x))
 case field T x f=>exact dk (ko hT H h (hev x))
 case indexAddr T x ix=>exact dk (kp hT H h hc (hev x) (hev ix))
 case extract x i =>
  split at h
  · rename_i l hl
    split at h
    · rename_i a ha
      injection h with h;subst h
      have hx:=hev x
      rw [hl] at hx
      obtain ⟨vs,e,h1,h2⟩:=nf hx
      have hi : i < l.length:=by
       rcases Nat.lt_or_ge i l.length with h|h
       · exact h
       · rw [List.getElem?_eq_none h] at ha;cases ha
      have:=h2 i hi
      rw [getD_some ha,bI (by omega)] at this
      have hg : vs[i]? = some vs[i]:=List.getElem?_eq_getElem (by omega)
      exact ⟨_,_,w,by rw [e];simp [Instr.extract,hg],.inl rfl,dp H this⟩
    · cases h
  · cases h
 case call c =>
  obtain ⟨cal,args,ats⟩:=c
  obtain ⟨args⟩:=args
  obtain ⟨ats⟩:=ats
  simp only at h
  split at h
  · rename_i hcal
    split at h
    · rename_i x T
      split at h
      · rename_i t ht
        obtain ⟨_,_,d,hok⟩:=hT T t ht
        split at h
        · rename_i e hsh
          have hd:=hok.sh
          rw [hsh] at hd
          simp only [fg] at hd
          have hu:=hok.und
          rw [hd] at hu
          obtain ⟨v,w',q1,q2⟩:=l9 (ty:=o.type) H hu h (hev x)
          exact ⟨.value v,v,w',by simp [resolve,invoke,builtin,q1],.inl rfl,q2⟩
        · cases h
      · cases h
    · cases h
  · rename_i hcal
    split at h
    · rename_i x y T T'
      split at h
      · rename_i e;subst e
        obtain ⟨v,w',q1,q2⟩:=js (ty:=o.type) hT H h hc (hev x) (hev y)
        exact ⟨.value v,v,w',by simp [resolve,invoke,builtin,q1],.inl rfl,q2⟩
      · cases h
    · cases h
  · obtain ⟨m1,m2⟩:=fE (l:=args) hev
    obtain ⟨v,w',q1,q2⟩:=ma (P:=P) (ats:=ats.toArray) (ty:=o.type) H h m1 m2
    exact ⟨.value v,v,w',by simp [resolve,invoke,builtin,q1],.inl rfl,q2⟩
  · obtain ⟨m1,m2⟩:=fE (l:=args) hev
    obtain ⟨v,w',q1,q2⟩:=mb (P:=P) (ats:=ats.toArray) (ty:=o.type) H h m1 m2
    exact ⟨.value v,v,w',by simp [resolve,invoke,builtin,q1],.inl rfl,q2⟩
  · cases h
end
end Go.Proofs.Ytlodllmpndflcaa
namespace Go.Proofs.Ytlodllmpndflcaa
set_option linter.unusedVariables false
set_option linter.unusedSimpArgs false
open Go.RowKit
def Op.still : Op → Bool
 | .move _ | .assign _ | .pick _ _ _ | .extract _ _ | .build _ _ | .field _ _ _ | .unOp _ _ _ | .convert _ _ _ | .makeFunc _ _ _ | .binOp _ _ _ _ _ | .alloc _ | .box _ _ | .makeSlice _ _ _ => true
 | _ => false
def rdN (o : Op) (ev : Operand → AV) : List Nat:=if Op.still o then [] else bp (o.operands.toList.map ev)
theorem ii {a : AV} {l : List AV} (h : a.cells = some l) : bp l = a.names:=by
 cases a with
 | agg l' => simp only [AV.cells] at h; split at h
             · injection h with h;subst h;rfl
             · cases h
 | any => simp [AV.cells, AV.one] at h
 | tup l => simp [AV.cells, AV.one] at h
 | k u => simp only [AV.cells] at h; split at h
          · injection h with h;subst h;rfl
          · cases h
 | _ => simp only [AV.cells, AV.one, ↓reduceIte, Option.some.injEq] at h; subst h; simp [bp]
theorem cL {l : List AV} {a : AV} {ν : Nat} (h : a ∈ l) (hν : ν ∈ a.names) : ν ∈ bp l:=by
 induction l with
 | nil => cases h
 | cons b l ih =>
   rw [bp]
   rcases List.mem_cons.1 h with rfl|h
   · exact List.mem_append_left _ hν
   · exact List.mem_append_right _ (ih h)
section
variable {ti : TI} {hp hp' : Hp}
theorem oa {a : AV} (h : ∀ ν,ν ∈ a.names → hp ν = hp' ν) : toC hp a = toC hp' a:=by
 cases a <;> try rfl
 rename_i ν
 simp only [toC,h ν (by simp [AV.names])]
theorem iY {l : List AV} (h : ∀ ν,ν ∈ bp l → hp ν = hp' ν) : fa hp l = fa hp' l:=by
 induction l with
 | nil => rfl
 | cons a l ih =>
   simp only [bp,List.mem_append] at h
   rw [fa,fa,oa fun ν hν=>h ν (.inl hν),ih fun ν hν=>h ν (.inr hν)]
theorem jL {a : AV} (h : ∀ ν,ν ∈ a.names → hp ν = hp' ν) : slC hp a = slC hp' a:=by
 cases a <;> try rfl
 rename_i ν
 simp only [slC,h ν (by simp [AV.names])]
theorem ls {T : TypeId} {a : AV} (h : ∀ ν,ν ∈ a.names → hp ν = hp' ν) : ig ti hp T a = ig ti hp' T a:=by
 cases a with
 | ad ν o => simp only [ig, h ν (by simp [AV.names])]
 | ea ν i j => simp only [ig, h ν (by simp [AV.names])]
 | _ => rfl
theorem mg {a : AV} (h : ∀ ν,ν ∈ a.names → hp ν = hp' ν) : lf hp a = lf hp' a:=by
 cases a with
 | ad ν o => simp only [lf, h ν (by simp [AV.names])]
 | ea ν i j => simp only [lf, h ν (by simp [AV.names])]
 | _ => rfl
theorem gS {T : TypeId} {a : AV} {f : Nat} (h : ∀ ν,ν ∈ a.names → hp ν = hp' ν) : cK ti hp T a f = cK ti hp' T a f:=by
 cases a with
 | ad ν o => simp only [cK, h ν (by simp [AV.names])]
 | ea ν i j => simp only [cK, h ν (by simp [AV.names])]
 | _ => rfl
theorem kw {T : TypeId} {a b : AV} (h : ∀ ν,ν ∈ a.names → hp ν = hp' ν) : fU ti hp T a b = fU ti hp' T a b:=by
 cases a with
 | sl ν => simp only [fU, h ν (by simp [AV.names])]
 | _ => rfl
theorem kx {T : TypeId} {a : AV} {l r : Option AV} (h : ∀ ν,ν ∈ a.names → hp ν = hp' ν) : fV ti hp T a l r = fV ti hp' T a l r:=by
 cases a with
 | sl ν => simp only [fV, h ν (by simp [AV.names])]
 | _ => rfl
theorem mj {a : AV} (h : ∀ ν,ν ∈ a.names → hp ν = hp' ν) : l4 hp a = l4 hp' a:=by
 unfold l4;rw [jL h]
theorem jt {T : TypeId} {a b : AV} (h : ∀ ν,ν ∈ a.names → hp ν = hp' ν) (h2 : ∀ ν,ν ∈ b.names → hp ν = hp' ν) : eO ti hp T a b = eO ti hp' T a b:=by
 unfold eO
 rw [jL h2]
 cases a with
 | sl ν => simp only [h ν (by simp [AV.names])]
 | c c => cases c <;> rfl
 | _ => rfl
theorem ky {T : TypeId} {a b : AV} (h : ∀ ν,ν ∈ a.names → hp ν = hp' ν) (h2 : ∀ ν,ν ∈ b.names → hp ν = hp' ν) : fT ti hp T a b = fT ti hp' T a b:=by
 unfold fT
 cases hc : b.cells with
 | none => cases ti T <;> rfl
 | some cs =>
   cases ti T with
   | none => rfl
   | some t =>
     have e : fa hp cs = fa hp' cs:=iY fun ν hν=>h2 ν (by rwa [ii hc] at hν)
     simp only [e]
     cases a with
     | ad ν o => simp only [h ν (by simp [AV.names])]
     | ea ν i j => simp only [h ν (by simp [AV.names])]
     | _ => rfl
theorem ml {l : List AV} (h : ∀ ν,ν ∈ bp l → hp ν = hp' ν) (c : C) : iq hp c l = iq hp' c l:=by
 induction l generalizing c with
 | nil => rfl
 | cons a l ih =>
   simp only [bp,List.mem_append] at h
   rw [iq,iq]
   cases hc : a.cells with
   | none => rfl
   | some cs =>
     have e : fa hp cs = fa hp' cs:=iY fun ν hν=>h ν (.inl (by rwa [ii hc] at hν))
     simp only [e]
     split
     · split
       · rw [ih fun ν hν=>h ν (.inr hν)]
       · rfl
     · rfl
theorem ob {o : Op} {ev ev' : Operand → AV} (he : ∀ x,x ∈ o.operands.toList → ev x = ev' x) (h : ∀ ν,ν ∈ rdN o ev → hp ν = hp' ν) : opW ti ev hp o = opW ti ev' hp' o:=by
 have hn : Op.still o = false → ∀ x,x ∈ o.operands.toList → ∀ ν,ν ∈ (ev' x).names → hp ν = hp' ν:=by
  intro hs x hx ν hν
  refine h ν ?_
  unfold rdN
  rw [hs]
  exact cL (List.mem_map.2 ⟨x,hx,rfl⟩) (by rw [he x hx];exact hν)
 cases o <;> simp only [opW]
 case move x=>rw [he x (by simp [Op.operands])]
 case assign x=>rw [he x (by simp [Op.operands])]
 case pick c a b=>rw [he c (by simp [Op.operands]),he a (by simp [Op.operands]),he b (by simp [Op.operands])]
 case box T x=>rw [he x (by simp [Op.operands])]
 case build T parts =>
  have : (parts.toList.map fun p=>(p.1,ev p.2)) = parts.toList.map fun p=>(p.1,ev' p.2):=List.map_congr_left fun p hp=>by
   rw [he p.2 (by simp only [Op.operands];exact List.mem_map.2 ⟨p,hp,rfl⟩)]
  rw [this]
 case buildSlice T n parts =>
  have e1 : (parts.toList.map fun p=>(p.1,ev p.2)) = parts.toList.map fun p=>(p.1,ev' p.2):=List.map_congr_left fun p hp=>by
   rw [he p.2 (by simp only [Op.operands];exact List.mem_map.2 ⟨p,hp,rfl⟩)]
  rw [e1]
  unfold dw
  have e2 : ∀ c,iq hp c ((parts.toList.map fun p=>(p.1,ev' p.2)).map (·.2)) = iq hp' c ((parts.toList.map fun p=>(p.1,ev' p.2)).map (·.2)):=fun c=>ml (fun ν hν=>h ν (by
   simp only [rdN,Op.still,Bool.false_eq_true,↓reduceIte,Op.operands]
   rw [← e1] at hν
   simp only [List.map_map] at hν ⊢
   exact hν)) c
  simp only [e2]
 case load T x =>
  rw [he x (by simp [Op.operands])]
  exact ls fun ν hν=>hn rfl x (by simp [Op.operands]) ν hν
 case store T x y =>
  rw [he x (by simp [Op.operands]),he y (by simp [Op.operands])]
  exact ky (fun ν hν=>hn rfl x (by simp [Op.operands]) ν hν) (fun ν hν=>hn rfl y (by simp [Op.operands]) ν hν)
 case nilCheck x =>
  rw [he x (by simp [Op.operands])]
  exact mg fun ν hν=>hn rfl x (by simp [Op.operands]) ν hν
 case binOp op T x y T' =>
  rw [he x (by simp [Op.operands]),he y (by simp [Op.operands])]
  rfl
 case unOp op T x=>rw [he x (by simp [Op.operands])]
 case convert s d x=>rw [he x (by simp [Op.operands])]
 case makeFunc fn first cap =>
  have : cap.toList.map ev = cap.toList.map ev':=List.map_congr_left fun x hx=>he x (by simp only [Op.operands,Array.toList_append,List.mem_append];exact .inr hx)
  rw [this]
 case makeSlice T l c=>rw [he l (by simp [Op.operands]),he c (by simp [Op.operands])]
 case slice T x lo hi mx =>
  have e1 : lo.map ev = lo.map ev':=by cases lo with
   | none => rfl
   | some y => simp only [Option.map_some]; rw [he y (by simp [Op.operands])]
  have e2 : hi.map ev = hi.map ev':=by cases hi with
   | none => rfl
   | some y => simp only [Option.map_some]; rw [he y (by simp [Op.operands])]
  rw [e1,e2,he x (by simp [Op.operands])]
  cases mx with
  | none => exact kx fun ν hν => hn rfl x (by simp [Op.operands]) ν hν
  | some _ => rfl
 case fieldAddr T x f =>
  rw [he x (by simp [Op.operands])]
  exact gS fun ν hν=>hn rfl x (by simp [Op.operands]) ν hν
 case field T x f=>rw [he x (by simp [Op.operands])]
 case indexAddr T x ix =>
  rw [he x (by simp [Op.operands]),he ix (by simp [Op.operands])]
  exact kw fun ν hν=>hn rfl x (by simp [Op.operands]) ν hν
 case extract x i=>rw [he x (by simp [Op.operands])]
 case call c =>
  obtain ⟨cal,args,ats⟩:=c
  obtain ⟨args⟩:=args
  have ha : ∀ x,x ∈ args → ev x = ev' x:=fun x hx=>he x (by simp only [Op.operands,Call.operands,Array.toList_append,List.mem_append];exact .inr hx)
  have hna : ∀ x,x ∈ args → ∀ ν,ν ∈ (ev' x).names → hp ν = hp' ν:=fun x hx=>hn rfl x (by simp only [Op.operands,Call.operands,Array.toList_append,List.mem_append];exact .inr hx)
  have hm : args.map ev = args.map ev':=List.map_congr_left ha
  cases cal with
  | value f => rfl
  | invoke r m => rfl
  | builtin b =>
    cases b <;> try rfl
    case append =>
     simp only
     generalize ats.toList = l
     match args,ha,hna,l with
     | [x, y], ha, hna, [T, T'] =>
       simp only
       rw [ha x (by simp),ha y (by simp),jt (hna x (by simp)) (hna y (by simp))]
     | [_, _], _, _, [] => rfl
     | [_, _], _, _, [_] => rfl
     | [_, _], _, _, _ :: _ :: _ :: _ => rfl
     | [], _, _, _ => rfl
     | [_], _, _, _ => rfl
     | _ :: _ :: _ :: _, _, _, _ => rfl
    case len =>
     simp only
     generalize ats.toList = l
     match args,ha,hna,l with
     | [x], ha, hna, [T] =>
       simp only
       rw [ha x (by simp),mj (hna x (by simp))]
     | [_], _, _, [] => rfl
     | [_], _, _, _ :: _ :: _ => rfl
     | [], _, _, _ => rfl
     | _ :: _ :: _, _, _, _ => rfl
    case max=>simp only;rw [hm]
    case min=>simp only;rw [hm]
end
end Go.Proofs.Ytlodllmpndflcaa
namespace Go.Proofs.Ytlodllmpndflcaa
set_option linter.unusedVariables false
set_option linter.unusedSimpArgs false
open Go.RowKit
def cM (P : Program) (f : FuncId) (avs : List AV) (hp : Hp) (E : Eff) : Prop :=
 (∃ fn, P.funcs[f]? = some fn ∧ fn.body.isNone = false ∧ (fn.name == "runtime.NumGoroutine") = false) ∧
 ∀ φ hp1 lo w0 w (vs : List Value),(∀ ν,ν ∈ bp avs → hp1 ν = hp ν) → HC φ hp1 lo w0 w → vs.length = avs.length → (∀ i,i < avs.length → AVC φ hp1 w (avs.getD i .any) (vs.getD i undef)) →
  Calls P f vs.toArray w fun e w'=>∃ v,e = .returned v ∧ Out φ hp1 lo w0 w E.up E.nw E.val v w'
def dT (ev : Operand → AV) : Op → Option (FuncId × List AV)
 | .call c => match c.callee with
   | .value x => match ev x with
     | .fn (.func f) caps => some (f, c.args.toList.map ev ++ caps)
     | _ => none
   | _ => none
 | _ => none
def OpR (P : Program) (ti : TI) (o : Op) (ev : Operand → AV) (hp : Hp) (E : Eff) : Prop :=
 match dT ev o with
 | some (f, avs) => cM P f avs hp E
 | none => opW ti ev hp o = some E ∧ E.cond
def fl (lo : Nat) (w0 : World) (φ0 : Nat → Loc) (hp0 : Hp) (N : Nat) (tm : Nat → AV) (hp : Hp) (a : Act) (w : World) : Prop :=
 ∃ φ,HC φ hp lo w0 w ∧ Evo φ0 hp0 w0 φ hp w ∧ (∀ t,AVC φ hp w (tm t) (a.tmps.getD t undef)) ∧ a.defers = [] ∧ a.tmps.size = N
theorem mm {l : List AV} {ν : Nat} (h : ν ∈ bp l) : ∃ a,a ∈ l ∧ ν ∈ a.names:=by
 induction l with
 | nil => simp [bp] at h
 | cons a l ih =>
   rw [bp,List.mem_append] at h
   rcases h with h|h
   · exact ⟨a,by simp,h⟩
   · obtain ⟨b,h1,h2⟩:=ih h;exact ⟨b,List.mem_cons_of_mem _ h1,h2⟩
theorem jM {ev : Operand → AV} {o : Op} {f : FuncId} {avs : List AV} (h : dT ev o = some (f,avs)) : ∃ x caps args ats,o = .call { callee:=.value x,args:=args,argTypes:=ats } ∧ ev x = .fn (.func f) caps ∧ avs = args.toList.map ev ++ caps:=by
 cases o <;> simp only [dT,reduceCtorEq] at h
 rename_i c
 obtain ⟨cal,avs,ats⟩:=c
 simp only at h
 split at h
 · rename_i x
   split at h
   · rename_i f' caps hx
     injection h with h
     injection h with h1 h2
     subst h1
     exact ⟨_,_,_,_,rfl,hx,h2.symm⟩
   · cases h
 · cases h
theorem kz {ev ev' : Operand → AV} {o : Op} (he : ∀ x,x ∈ o.operands.toList → ev x = ev' x) : dT ev o = dT ev' o:=by
 cases o <;> try rfl
 rename_i c
 obtain ⟨cal,avs,ats⟩:=c
 cases cal <;> try rfl
 rename_i x
 simp only [dT]
 rw [he x (by simp [Op.operands,Call.operands])]
 have : avs.toList.map ev = avs.toList.map ev':=List.map_congr_left fun y hy=>he y (by simp only [Op.operands,Call.operands,Array.toList_append,List.mem_append];exact .inr hy)
 rw [this]
theorem jN {P : Program} {ti : TI} {o : Op} {ev ev' : Operand → AV} {hp hp' : Hp} {E : Eff} (he : ∀ x,x ∈ o.operands.toList → ev x = ev' x) (h : ∀ ν,ν ∈ rdN o ev → hp ν = hp' ν) (hR : OpR P ti o ev hp E) : OpR P ti o ev' hp' E:=by
 unfold OpR at hR ⊢
 rw [← kz he]
 cases hc : dT ev o with
 | none => rw [hc] at hR; simp only at hR ⊢; rw [← ob he h]; exact hR
 | some p =>
   obtain ⟨f,avs⟩:=p
   rw [hc] at hR
   simp only at hR ⊢
   obtain ⟨x,caps,args,ats,rfl,hx,rfl⟩:=jM hc
   refine ⟨hR.1,fun φ hp1 lo w0 w vs h1=>hR.2 φ hp1 lo w0 w vs fun ν hν=>?_⟩
   rw [h1 ν hν]
   obtain ⟨a,ha1,ha2⟩:=mm hν
   have key : ∀ y,y ∈ (Op.call { callee:=.value x,args:=args,argTypes:=ats }).operands.toList → ν ∈ (ev y).names → hp' ν = hp ν:=fun y hy hn=>(h ν (by
    simp only [rdN,Op.still,Bool.false_eq_true,↓reduceIte]
    exact cL (a:=ev y) (List.mem_map.2 ⟨y,hy,rfl⟩) hn)).symm
   rcases List.mem_append.1 ha1 with ha1|ha1
   · obtain ⟨y,hy1,hy2⟩:=List.mem_map.1 ha1
     exact key y (by simp only [Op.operands,Call.operands,Array.toList_append,List.mem_append];exact .inr hy1) (by rw [hy2];exact ha2)
   · exact key x (by simp [Op.operands,Call.operands]) (by rw [hx,AV.names];exact cL ha1 ha2)
theorem kA {φ : Nat → Loc} {hp : Hp} {w : World} {tm : Nat → AV} {a : Act} (h : ∀ t,AVC φ hp w (tm t) (a.tmps.getD t undef)) (x : Operand) : AVC φ hp w (evT tm x) (a.eval x):=by
 cases x with
 | tmp t => exact h t
 | const v => exact jK v
 | global g => exact .k _
 | func f => exact .fn (l := []) (vs := []) rfl fun i hi => by simp at hi
theorem sL {φ : Nat → Loc} {hp : Hp} {w : World} {f : Fn} {l : List AV} {v : Value} (h : AVC φ hp w (.fn f l) v) : ∃ vs : List Value,v = .func f #[] vs.toArray ∧ vs.length = l.length ∧ ∀ i,i < l.length → AVC φ hp w (l.getD i .any) (vs.getD i undef):=by
 cases h with
 | fn hl h => exact ⟨_, rfl, hl, h⟩
theorem ni {φ : Nat → Loc} {hp : Hp} {w : World} {tm : Nat → AV} {a : Act} {dst : Option Nat} {av : AV} {v : Value} {N : Nat} (h : ∀ t,AVC φ hp w (tm t) (a.tmps.getD t undef)) (hN : a.tmps.size = N) (hd : ∀ d,dst = some d → d < N) (hv : AVC φ hp w av v) :
  (∀ t,AVC φ hp w (cn tm dst av t) ((a.put dst v).tmps.getD t undef)) ∧ (a.put dst v).defers = a.defers ∧ (a.put dst v).tmps.size = N:=by
 cases dst with
 | none => exact ⟨h, rfl, hN⟩
 | some d =>
   have hdN:=hd d rfl
   refine ⟨fun t=>?_,rfl,by simp [Act.put,hN]⟩
   simp only [cn,Act.put]
   by_cases e : t = d
   · subst e
     rw [bt]
     simp [Array.getD_eq_getD_getElem?,hN,hdN]
     exact hv
   · rw [cc e]
     have:=h t
     rw [Array.getD_eq_getD_getElem?] at this ⊢
     rw [Array.getElem?_setIfInBounds_ne (Ne.symm e)]
     exact this
theorem rq {P : Program} {o : Oper} {a : Act} {next : Act → World → Prop} {Q : Exit → Act → World → Prop} {r : Next} {v : Value} {w' : World} (h : r = .value v ∨ (r = .skip ∧ v = undef)) (hn : next (a.put o.dst v) w') : o.upon P a next Q (.ok r w'):=by
 rcases h with rfl|⟨rfl,rfl⟩ <;> exact hn
theorem rr {P : Program} {ti : TI} (hT : cP P ti) {o : Oper} {lo N : Nat} {w0 w : World} {φ0 : Nat → Loc} {hp0 : Hp} {tm : Nat → AV} {hp : Hp} {a : Act} {E : Eff} {Q : Exit → Act → World → Prop} (hR : OpR P ti o.op (evT tm) hp E) (hC : fl lo w0 φ0 hp0 N tm hp a w) (hd : ∀ d,o.dst = some d → d < N)
  {ν : List Nat} (h1 : ν.length = E.nw.length) (h2 : ν.Nodup) (h3 : ∀ x,x ∈ ν → hp x = none) : o.wp P a w (fl lo w0 φ0 hp0 N (cn tm o.dst (E.val ν)) (bQ (aY hp E.up) ν E.nw)) Q:=by
 obtain ⟨φ,H,EV0,ht,hdf,hN⟩:=hC
 have fin : ∀ v w',Out φ hp lo w0 w E.up E.nw E.val v w' → fl lo w0 φ0 hp0 N (cn tm o.dst (E.val ν)) (bQ (aY hp E.up) ν E.nw) (a.put o.dst v) w':=by
  intro v w' hO
  obtain ⟨φ',H',EV,hv⟩:=hO ν h1 h2 h3
  obtain ⟨p1,p2,p3⟩:=ni (fun t=>(ht t).evo EV) hN hd hv
  exact ⟨φ',H',EV0.trans EV,p1,p2.trans hdf,p3⟩
 unfold OpR at hR
 cases hc : dT (evT tm) o.op with
 | none =>
   rw [hc] at hR
   obtain ⟨r,v,w',q1,q2,q3⟩:=n9 hT H (o:=o) (ρ:=a.eval) (kA ht) hR.1 hR.2
   unfold Oper.wp
   rw [q1]
   exact rq q2 (fin v w' q3)
 | some p =>
   obtain ⟨f,avs⟩:=p
   rw [hc] at hR
   simp only at hR
   obtain ⟨x,caps,args,ats,hop,hx,rfl⟩:=jM hc
   obtain ⟨⟨fn,f1,f2,f3⟩,hcall⟩:=hR
   obtain ⟨m1,m2⟩:=fE (l:=args.toList) (kA ht)
   have hfn:=kA ht x
   rw [hx] at hfn
   obtain ⟨cs,hv,c1,c2⟩:=sL hfn
   have hC:=hcall φ hp lo w0 w (args.toList.map a.eval ++ cs) (fun _ _=>rfl) H (by simp [c1]) fun i hi=>by
    simp only [List.length_append,List.length_map] at hi
    by_cases h : i < args.toList.length
    · rw [List.getD_eq_getElem?_getD,List.getElem?_append_left (by simpa using h),← List.getD_eq_getElem?_getD,List.getD_eq_getElem?_getD (l:=args.toList.map a.eval ++ cs),List.getElem?_append_left (by simpa using h),← List.getD_eq_getElem?_getD]
      exact m2 i (by simpa using h)
    · rw [List.getD_eq_getElem?_getD,List.getElem?_append_right (by simpa using h),← List.getD_eq_getElem?_getD,List.getD_eq_getElem?_getD (l:=args.toList.map a.eval ++ cs),List.getElem?_append_right (by simpa using h),← List.getD_eq_getElem?_getD]
      simp only [List.length_map]
      exact c2 _ (by omega)
   unfold Oper.wp
   have f3' : ¬ fn.name = "runtime.NumGoroutine" := by simpa using f3
   have hrun : (execOp a.eval o).run P w = .ok (.enter f (args.toList.map a.eval ++ cs).toArray) w:=by
    unfold execOp
    rw [hop]
    obtain ⟨b,hb⟩ : ∃ b,fn.body = some b:=by cases hb : fn.body with|none=>rw [hb] at f2;cases f2|some b=>exact ⟨b,rfl⟩
    simp [resolve,hv,Deferred.ofValue,invoke,callFunc,f1,hb,f3',program,Sem.run]
   rw [hrun]
   exact hC.mono fun e w' ⟨v,he,hO⟩=>by subst he;exact fin v w' hO
structure Foot where
 rd : List Nat
 wr : List Nat
 nw : List Nat
inductive TStep where
 | skip
 | run (E : Eff) (ν : List Nat)
def d8 (ops : Array Oper) (tm : Nat → AV) (o : Oper) (b : Bool) : Prop :=
 match o.guard with
 | none => b = true
 | some (j, want) => ∃ d, (ops[j]?).bind (·.dst) = some d ∧ ((∃ t, tm d = .c (.bool t) ∧ b = (t == want)) ∨ (tm d = .k undef ∧ b = false))
structure TE where
 i : Nat
 o : Oper
 st : TStep
 ft : Foot
def dD (tm : Nat → AV) (o : Oper) : TStep → Foot
 | .skip => ⟨[], [], []⟩
 | .run E ν => ⟨rdN o.op (evT tm), E.up.map (·.1), ν⟩
def fb (tm : Nat → AV) (e : TE) : Nat → AV :=
 match e.st with
 | .skip => cn tm e.o.dst (.k undef)
 | .run E ν => cn tm e.o.dst (E.val ν)
def fm (hp : Hp) (e : TE) : Hp :=
 match e.st with
 | .skip => hp
 | .run E ν => bQ (aY hp E.up) ν E.nw
def Val (P : Program) (ti : TI) (ops : Array Oper) (tm : Nat → AV) (hp : Hp) (e : TE) : Prop :=
 e.ft = dD tm e.o e.st ∧
 match e.st with
 | .skip => d8 ops tm e.o false
 | .run E ν => d8 ops tm e.o true ∧ OpR P ti e.o.op (evT tm) hp E ∧ ν.length = E.nw.length ∧ ν.Nodup ∧ ∀ x, x ∈ ν → hp x = none
def TrV (P : Program) (ti : TI) (ops : Array Oper) : List TE → (Nat → AV) → Hp → Prop
 | [], _, _ => True
 | e :: l, tm, hp => Val P ti ops tm hp e ∧ TrV P ti ops l (fb tm e) (fm hp e)
def lu : List TE → (Nat → AV) → Nat → AV
 | [], tm => tm
 | e :: l, tm => lu l (fb tm e)
def lw : List TE → Hp → Hp
 | [], hp => hp
 | e :: l, hp => lw l (fm hp e)
def sM (l m : List Nat) : Prop:=∀ x,x ∈ l → ∀ y,y ∈ m → x ≠ y
def sm (f g : Foot) : Prop:=sM (f.wr ++ f.nw) (g.rd ++ g.wr) ∧ sM (g.wr ++ g.nw) (f.rd ++ f.wr)
theorem iZ {hp : Hp} {l : List (Nat × Ent)} {ν : Nat} (h : ¬ ν ∈ l.map (·.1)) : aY hp l ν = hp ν:=by
 induction l generalizing hp with
 | nil => rfl
 | cons p l ih =>
   simp only [List.map_cons,List.mem_cons,not_or] at h
   show aY (upd hp p.1 (some p.2)) l ν = _
   rw [ih h.2,cc h.1]
theorem dL (hp : Hp) : ∀ (ν : List Nat) (nw : List Ent),bQ hp ν nw = aY hp (ν.zip nw):=by
 intro ν
 induction ν generalizing hp with
 | nil => intro nw; cases nw <;> rfl
 | cons x ν ih =>
   intro nw
   cases nw with
   | nil => rfl
   | cons e nw => exact ih _ _
theorem px {hp : Hp} {l : List (Nat × Ent)} {ν : Nat} {e : Option Ent} (h : ¬ ν ∈ l.map (·.1)) : aY (upd hp ν e) l = upd (aY hp l) ν e:=by
 induction l generalizing hp with
 | nil => rfl
 | cons p l ih =>
   simp only [List.map_cons,List.mem_cons,not_or] at h
   show aY (upd (upd hp ν e) p.1 (some p.2)) l = upd (aY (upd hp p.1 (some p.2)) l) ν e
   rw [ld _ _ _ h.1,ih h.2]
theorem oc {hp : Hp} {l m : List (Nat × Ent)} (h : ∀ x,x ∈ l.map (·.1) → ¬ x ∈ m.map (·.1)) : aY (aY hp l) m = aY (aY hp m) l:=by
 induction l generalizing hp with
 | nil => rfl
 | cons p l ih =>
   have h1:=h p.1 (by simp)
   show aY (aY (upd hp p.1 (some p.2)) l) m = aY (upd (aY hp m) p.1 (some p.2)) l
   rw [ih fun x hx=>h x (by simp only [List.map_cons,List.mem_cons];exact .inr hx),px h1]
theorem py (hp : Hp) (l m : List (Nat × Ent)) : aY (aY hp l) m = aY hp (l ++ m):=(lg hp l m).symm
def ups (e : TE) : List (Nat × Ent) :=
 match e.st with
 | .skip => []
 | .run E ν => E.up ++ ν.zip E.nw
theorem df (hp : Hp) (e : TE) : fm hp e = aY hp (ups e):=by
 unfold fm ups
 cases e.st with
 | skip => rfl
 | run E ν => simp only; rw [dL, py]
theorem lx {tm : Nat → AV} {e : TE} (h : e.ft = dD tm e.o e.st) {x : Nat} (hx : x ∈ (ups e).map (·.1)) : x ∈ e.ft.wr ++ e.ft.nw:=by
 unfold ups at hx
 cases hs : e.st with
 | skip => rw [hs] at hx; simp at hx
 | run E ν =>
   rw [hs] at hx h
   rw [h]
   simp only [List.map_append,List.mem_append,dD] at hx ⊢
   rcases hx with hx|hx
   · exact .inl hx
   · obtain ⟨p,hp,e⟩:=List.mem_map.1 hx
     rw [← e]
     exact .inr (List.of_mem_zip hp).1
theorem ly {tm : Nat → AV} {dst : Option Nat} {v : AV} {x : Operand} (h : ∀ d,dst = some d → x ≠ .tmp d) : evT (cn tm dst v) x = evT tm x:=by
 cases dst with
 | none => rfl
 | some d =>
   cases x with
   | tmp t => exact cc fun e => h d rfl (by rw [e])
   | _ => rfl
theorem od {tm : Nat → AV} {d d' : Option Nat} {v v' : AV} (h : ∀ x,d = some x → d' ≠ some x) : cn (cn tm d v) d' v' = cn (cn tm d' v') d v:=by
 cases d with
 | none => rfl
 | some x =>
   cases d' with
   | none => rfl
   | some y => exact ld _ _ _ fun e => h x rfl (by rw [e])
theorem lA (tm : Nat → AV) (e : TE) : ∃ v,∀ tm',fb tm' e = cn tm' e.o.dst v:=by
 unfold fb
 cases e.st with
 | skip => exact ⟨.k undef, fun _ => rfl⟩
 | run E ν => exact ⟨E.val ν, fun _ => rfl⟩
section
variable {P : Program} {ti : TI} {ops : Array Oper}
theorem jO {o : Oper} {t : Nat} (h : Operand.tmp t ∈ o.op.operands.toList) : t ∈ o.looksAt ops:=by
 unfold Oper.looksAt
 exact List.mem_append_left _ (List.mem_filterMap.2 ⟨_,h,rfl⟩)
theorem lB {o : Oper} {j : Nat} {want : Bool} {d : Nat} (h : o.guard = some (j,want)) (hd : (ops[j]?).bind (·.dst) = some d) : d ∈ o.looksAt ops:=by
 unfold Oper.looksAt
 rw [h]
 simp [hd]
theorem eV {tm : Nat → AV} {o : Oper} {b : Bool} {dst : Option Nat} {v : AV} (h : ∀ d,dst = some d → ¬ d ∈ o.looksAt ops) : d8 ops (cn tm dst v) o b ↔ d8 ops tm o b:=by
 unfold d8
 cases hg : o.guard with
 | none => exact Iff.rfl
 | some p =>
   obtain ⟨j,want⟩:=p
   have : ∀ d,(ops[j]?).bind (·.dst) = some d → cn tm dst v d = tm d:=by
    intro d hd
    cases dst with
    | none => rfl
    | some d' => exact cc fun e => h d' rfl (by rw [← e]; exact lB hg hd)
   simp only
   constructor
   · rintro ⟨d,h1,h2⟩;exact ⟨d,h1,by rw [← this d h1];exact h2⟩
   · rintro ⟨d,h1,h2⟩;exact ⟨d,h1,by rw [this d h1];exact h2⟩
theorem pz {tm : Nat → AV} {hp hp' : Hp} {e : TE} {dst : Option Nat} {v : AV} (hap : ∀ d,dst = some d → ¬ d ∈ e.o.looksAt ops) (hrd : ∀ ν,ν ∈ e.ft.rd → hp ν = hp' ν) (hnw : ∀ x,x ∈ e.ft.nw → hp x = none → hp' x = none)
  (h : Val P ti ops tm hp e) : Val P ti ops (cn tm dst v) hp' e:=by
 have hev : ∀ x,x ∈ e.o.op.operands.toList → evT tm x = evT (cn tm dst v) x:=fun x hx=>(ly fun d hd hxd=>hap d hd (jO (by rw [← hxd];exact hx))).symm
 obtain ⟨h1,h2⟩:=h
 have hft : dD (cn tm dst v) e.o e.st = dD tm e.o e.st:=by
  unfold dD
  cases e.st with
  | skip => rfl
  | run E ν =>
    simp only [Foot.mk.injEq,and_true]
    unfold rdN
    split
    · rfl
    · congr 1;exact List.map_congr_left fun x hx=>(hev x hx).symm
 refine ⟨h1.trans hft.symm,?_⟩
 cases hs : e.st with
 | skip => rw [hs] at h2; exact (eV hap).2 h2
 | run E ν =>
   rw [hs] at h2 h1
   simp only at h2 ⊢
   obtain ⟨g1,g2,g3,g4,g5⟩:=h2
   have hrd' : ∀ x,x ∈ rdN e.o.op (evT tm) → hp x = hp' x:=fun x hx=>hrd x (by rw [h1];exact hx)
   exact ⟨(eV hap).2 g1,jN hev hrd' g2,g3,g4,fun x hx=>hnw x (by rw [h1];exact hx) (g5 x hx)⟩
theorem pC {tm : Nat → AV} {hp hp' : Hp} {e : TE} {dst : Option Nat} {v : AV} (hap : ∀ d,dst = some d → ¬ d ∈ e.o.looksAt ops) (hrd : ∀ ν,ν ∈ e.ft.rd → hp ν = hp' ν) (hnw : ∀ x,x ∈ e.ft.nw → hp x = none → hp' x = none)
  (h : Val P ti ops (cn tm dst v) hp e) : Val P ti ops tm hp' e:=by
 have hev : ∀ x,x ∈ e.o.op.operands.toList → evT (cn tm dst v) x = evT tm x:=fun x hx=>ly fun d hd hxd=>hap d hd (jO (by rw [← hxd];exact hx))
 obtain ⟨h1,h2⟩:=h
 have hft : dD (cn tm dst v) e.o e.st = dD tm e.o e.st:=by
  unfold dD
  cases e.st with
  | skip => rfl
  | run E ν =>
    simp only [Foot.mk.injEq,and_true]
    unfold rdN
    split
    · rfl
    · congr 1;exact List.map_congr_left fun x hx=>hev x hx
 refine ⟨h1.trans hft,?_⟩
 cases hs : e.st with
 | skip => rw [hs] at h2; exact (eV hap).1 h2
 | run E ν =>
   rw [hs] at h2 h1
   simp only at h2 ⊢
   obtain ⟨g1,g2,g3,g4,g5⟩:=h2
   have hrd' : ∀ x,x ∈ rdN e.o.op (evT (cn tm dst v)) → hp x = hp' x:=fun x hx=>hrd x (by rw [h1];exact hx)
   exact ⟨(eV hap).1 g1,jN hev hrd' g2,g3,g4,fun x hx=>hnw x (by rw [h1];exact hx) (g5 x hx)⟩
def Ind (ops : Array Oper) (a e : TE) : Prop:=a.o.apart ops e.o = true ∧ sm a.ft e.ft
theorem mn {hp : Hp} {l : List (Nat × Ent)} {x : Nat} (h : aY hp l x = none) : hp x = none ∧ ¬ x ∈ l.map (·.1):=by
 induction l generalizing hp with
 | nil => exact ⟨h, by simp⟩
 | cons p l ih =>
   obtain ⟨h1,h2⟩:=ih (hp:=upd hp p.1 (some p.2)) h
   have hne : x ≠ p.1:=fun e=>by rw [e,bt] at h1;cases h1
   rw [cc hne] at h1
   exact ⟨h1,by simp only [List.map_cons,List.mem_cons,not_or];exact ⟨hne,h2⟩⟩
theorem sN {e : TE} {E : Eff} {ν : List Nat} (h : e.st = .run E ν) (hl : ν.length = E.nw.length) {x : Nat} (hx : x ∈ ν) : x ∈ (ups e).map (·.1):=by
 unfold ups
 rw [h]
 simp only [List.map_append,List.mem_append]
 refine .inr ?_
 rw [List.map_fst_zip (by omega)]
 exact hx
theorem swap {tm : Nat → AV} {hp : Hp} {a e : TE} (hI : Ind ops a e) (h1 : Val P ti ops tm hp a) (h2 : Val P ti ops (fb tm a) (fm hp a) e) :
  Val P ti ops tm hp e ∧ Val P ti ops (fb tm e) (fm hp e) a ∧ fb (fb tm e) a = fb (fb tm a) e ∧ fm (fm hp e) a = fm (fm hp a) e:=by
 obtain ⟨hap,hd1,hd2⟩:=hI
 obtain ⟨s1,s2,s3⟩:=Oper.apart_spec hap
 obtain ⟨va,hva⟩:=lA tm a
 obtain ⟨ve,hve⟩:=lA tm e
 have hfa:=h1.1
 have hfe : e.ft = dD (fb tm a) e.o e.st:=h2.1
 have ua : ∀ x,x ∈ (ups a).map (·.1) → x ∈ a.ft.wr ++ a.ft.nw:=fun x hx=>lx hfa hx
 have ue : ∀ x,x ∈ (ups e).map (·.1) → x ∈ e.ft.wr ++ e.ft.nw:=fun x hx=>lx hfe hx
 have k1 : Val P ti ops tm hp e:=by
  rw [hva] at h2
  refine pC s1 (fun ν hν=>?_) (fun x hx hn=>?_) h2
  · rw [df,iZ];intro hx;exact hd1 ν (ua ν hx) ν (List.mem_append_left _ hν) rfl
  · rw [df] at hn;exact (mn hn).1
 have fresh : ∀ x,x ∈ e.ft.nw → ¬ x ∈ (ups a).map (·.1):=by
  intro x hx
  have hst:=h2.2
  cases hs : e.st with
  | skip => rw [hfe, hs] at hx; simp [dD] at hx
  | run E ν =>
    rw [hs] at hst
    simp only at hst
    obtain ⟨_,_,_,_,g5⟩:=hst
    rw [hfe,hs] at hx
    have:=g5 x hx
    rw [df] at this
    exact (mn this).2
 have disj : ∀ x,x ∈ (ups a).map (·.1) → ¬ x ∈ (ups e).map (·.1):=by
  intro x h3 h4
  rcases List.mem_append.1 (ue x h4) with h5|h5
  · exact hd1 x (ua x h3) x (List.mem_append_right _ h5) rfl
  · exact fresh x h5 h3
 have k2 : Val P ti ops (fb tm e) (fm hp e) a:=by
  rw [hve]
  refine pz s3 (fun ν hν=>?_) (fun x hx hn=>?_) h1
  · rw [df,iZ];intro hx;exact hd2 ν (ue ν hx) ν (List.mem_append_left _ hν) rfl
  · rw [df,iZ]
    · exact hn
    · intro hxe
      have hst:=h1.2
      cases hs : a.st with
      | skip => rw [hfa, hs] at hx; simp [dD] at hx
      | run E ν =>
        rw [hs] at hst
        simp only at hst
        rw [hfa,hs] at hx
        exact disj x (sN hs hst.2.2.1 hx) hxe
 refine ⟨k1,k2,?_,?_⟩
 · rw [hve tm,hva tm,hva,hve,od fun x h=>?_]
   intro h';exact s2 x h' h
 · rw [df,df,df,df]
   exact (oc disj).symm
theorem pick {e : TE} {β : List TE} : ∀ (α : List TE) (tm : Nat → AV) (hp : Hp),(∀ a,a ∈ α → Ind ops a e) → TrV P ti ops (α ++ e :: β) tm hp →
  Val P ti ops tm hp e ∧ TrV P ti ops (α ++ β) (fb tm e) (fm hp e) ∧ lu (α ++ β) (fb tm e) = lu (α ++ e :: β) tm ∧ lw (α ++ β) (fm hp e) = lw (α ++ e :: β) hp:=by
 intro α
 induction α with
 | nil => intro tm hp _ h; exact ⟨h.1, h.2, rfl, rfl⟩
 | cons a α ih =>
   intro tm hp hI h
   obtain ⟨h1,h2⟩:=h
   obtain ⟨g1,g2,g3,g4⟩:=ih _ _ (fun b hb=>hI b (List.mem_cons_of_mem _ hb)) h2
   obtain ⟨k1,k2,k3,k4⟩:=swap (hI a (by simp)) h1 g1
   refine ⟨k1,⟨k2,?_⟩,?_,?_⟩
   · rw [k3,k4];exact g2
   · show lu (α ++ β) (fb (fb tm e) a) = _;rw [k3];exact g3
   · show lw (α ++ β) (fm (fm hp e) a) = _;rw [k4];exact g4
end
end Go.Proofs.Ytlodllmpndflcaa
namespace Go.Proofs.Ytlodllmpndflcaa
set_option linter.unusedVariables false
set_option linter.unusedSimpArgs false
open Go.RowKit
def ez (P : Program) (ti : TI) (o : Op) (ev : Operand → AV) (hp : Hp) (k : Eff → Prop) : Prop :=
 match dT ev o with
 | some (f, avs) => ∃ E, cM P f avs hp E ∧ k E
 | none => match opW ti ev hp o with
   | some E => E.cond ∧ k E
   | none => False
def d9 (P : Program) (ti : TI) (ops : Array Oper) : List Oper → (List Foot → (Nat → AV) → Hp → Prop) → List Foot → (Nat → AV) → Hp → Prop
 | [], K, acc, tm, hp => K acc tm hp
 | o :: l, K, acc, tm, hp =>
   match o.guard with
   | none => ez P ti o.op (evT tm) hp fun E => FA E.nw (aY hp E.up) [] fun hp' ν => d9 P ti ops l K (acc ++ [⟨rdN o.op (evT tm), E.up.map (·.1), ν⟩]) (cn tm o.dst (E.val ν)) hp'
   | some (j, want) => match (ops[j]?).bind (·.dst) with
     | none => False
     | some d => match tm d with
       | .c (.bool t) => (t = want → ez P ti o.op (evT tm) hp fun E => FA E.nw (aY hp E.up) [] fun hp' ν => d9 P ti ops l K (acc ++ [⟨rdN o.op (evT tm), E.up.map (·.1), ν⟩]) (cn tm o.dst (E.val ν)) hp') ∧
          (t ≠ want → d9 P ti ops l K (acc ++ [⟨[],[],[]⟩]) (cn tm o.dst (.k undef)) hp)
       | .k v => v = undef ∧ d9 P ti ops l K (acc ++ [⟨[], [], []⟩]) (cn tm o.dst (.k undef)) hp
       | _ => False
theorem rs : ∀ (es : List Ent) (hp : Hp) (acc : List Nat) (k : Hp → List Nat → Prop),FA es hp acc k → ∃ ν : List Nat,ν.length = es.length ∧ ν.Nodup ∧ (∀ x,x ∈ ν → hp x = none) ∧ k (bQ hp ν es) (acc ++ ν):=by
 intro es
 induction es with
 | nil =>
   intro hp acc k h
   exact ⟨[],rfl,List.nodup_nil,(fun x hx=>by cases hx),(by rw [List.append_nil];exact h)⟩
 | cons e es ih =>
   intro hp acc k h
   obtain ⟨x,hx,h⟩:=h
   obtain ⟨ν,h1,h2,h3,h4⟩:=ih _ _ _ h
   have hn : ∀ y,y ∈ ν → y ≠ x ∧ hp y = none:=fun y hy=>by
    have:=h3 y hy
    by_cases e' : y = x
    · subst e';rw [bt] at this;cases this
    · rw [cc e'] at this;exact ⟨e',this⟩
   refine ⟨x :: ν,by simp [h1],List.nodup_cons.2 ⟨fun hm=>(hn x hm).1 rfl,h2⟩,fun y hy=>?_,?_⟩
   · rcases List.mem_cons.1 hy with rfl|hy
     · exact hx
     · exact (hn y hy).2
   · rw [List.append_assoc] at h4
     exact h4
def ir (hp : Hp) : Prop:=∃ b,∀ ν,b ≤ ν → hp ν = none
theorem eW {hp : Hp} (h : ir hp) (l : List (Nat × Ent)) : ir (aY hp l):=by
 induction l generalizing hp with
 | nil => exact h
 | cons p l ih => exact ih (kn h p.1 p.2)
section
variable {P : Program} {ti : TI} {ops : Array Oper}
theorem sn {K : List Foot → (Nat → AV) → Hp → Prop} : ∀ (l : List Oper) (s : Nat) (acc : List Foot) (tm : Nat → AV) (hp : Hp),ir hp → d9 P ti ops l K acc tm hp →
  ∃ R : List TE,R.map (·.o) = l ∧ R.map (·.i) = List.range' s l.length ∧ TrV P ti ops R tm hp ∧ K (acc ++ R.map (·.ft)) (lu R tm) (lw R hp):=by
 intro l
 induction l with
 | nil => intro s acc tm hp _ h; exact ⟨[], rfl, rfl, trivial, by rw [List.map_nil, List.append_nil]; exact h⟩
 | cons o l ih =>
   intro s acc tm hp hf h
   have run : ∀ (_ : d8 ops tm o true),(ez P ti o.op (evT tm) hp fun E=>FA E.nw (aY hp E.up) [] fun hp' ν=>d9 P ti ops l K (acc ++ [⟨rdN o.op (evT tm),E.up.map (·.1),ν⟩]) (cn tm o.dst (E.val ν)) hp') →
     ∃ R : List TE,R.map (·.o) = o :: l ∧ R.map (·.i) = List.range' s (l.length + 1) ∧ TrV P ti ops R tm hp ∧ K (acc ++ R.map (·.ft)) (lu R tm) (lw R hp):=by
    intro hw h
    obtain ⟨E,hR,hk⟩ : ∃ E,OpR P ti o.op (evT tm) hp E ∧ FA E.nw (aY hp E.up) [] fun hp' ν=>d9 P ti ops l K (acc ++ [⟨rdN o.op (evT tm),E.up.map (·.1),ν⟩]) (cn tm o.dst (E.val ν)) hp':=by
     unfold ez at h
     unfold OpR
     cases hc : dT (evT tm) o.op with
     | some p => rw [hc] at h; exact h
     | none =>
       rw [hc] at h
       simp only at h
       cases hE : opW ti (evT tm) hp o.op with
       | some E => rw [hE] at h; exact ⟨E, ⟨rfl, h.1⟩, h.2⟩
       | none => rw [hE] at h; exact h.elim
    obtain ⟨ν,n1,n2,n3,hnext⟩:=rs _ _ _ _ hk
    have n3' : ∀ x,x ∈ ν → hp x = none:=fun x hx=>(mn (n3 x hx)).1
    rw [List.nil_append] at hnext
    obtain ⟨R,r1,r2,r3,r4⟩:=ih (s + 1) _ _ _ (by rw [dL];exact eW (eW hf _) _) hnext
    refine ⟨⟨s,o,.run E ν,⟨rdN o.op (evT tm),E.up.map (·.1),ν⟩⟩ :: R,by simp [r1],by simp [r2,List.range'_succ],⟨⟨rfl,hw,hR,n1,n2,n3'⟩,r3⟩,?_⟩
    rw [List.map_cons,List.append_cons]
    exact r4
   simp only [d9] at h
   split at h
   · rename_i hg;exact run (by unfold d8;rw [hg]) h
   · rename_i j want hg
     split at h
     · exact h.elim
     · rename_i d hd
       split at h
       · rename_i t ht
         by_cases e : t = want
         · exact run (by unfold d8;rw [hg];exact ⟨d,hd,.inl ⟨t,ht,by subst e;simp⟩⟩) (h.1 e)
         · obtain ⟨R,r1,r2,r3,r4⟩:=ih (s + 1) _ _ _ hf (h.2 e)
           refine ⟨⟨s,o,.skip,⟨[],[],[]⟩⟩ :: R,by simp [r1],by simp [r2,List.range'_succ],⟨⟨rfl,?_⟩,r3⟩,?_⟩
           · show d8 ops tm o false
             unfold d8;rw [hg]
             exact ⟨d,hd,.inl ⟨t,ht,by cases t <;> cases want <;> simp_all⟩⟩
           · rw [List.map_cons,List.append_cons]
             exact r4
       · rename_i v ht
         obtain ⟨hv,h⟩:=h
         subst hv
         obtain ⟨R,r1,r2,r3,r4⟩:=ih (s + 1) _ _ _ hf h
         refine ⟨⟨s,o,.skip,⟨[],[],[]⟩⟩ :: R,by simp [r1],by simp [r2,List.range'_succ],⟨⟨rfl,?_⟩,r3⟩,?_⟩
         · show d8 ops tm o false
           unfold d8;rw [hg]
           exact ⟨d,hd,.inr ⟨ht,rfl⟩⟩
         · rw [List.map_cons,List.append_cons]
           exact r4
       · exact h.elim
theorem jP {tm : Nat → AV} {hp : Hp} {φ : Nat → Loc} {w : World} {a : Act} {o : Oper} {b : Bool} (ht : ∀ t,AVC φ hp w (tm t) (a.tmps.getD t undef)) (h : d8 ops tm o b) : Region.wanted o (yielded ops a.tmps) = b:=by
 unfold d8 at h
 unfold Region.wanted
 cases hg : o.guard with
 | none => rw [hg] at h; simp only at h ⊢; exact h.symm
 | some p =>
   obtain ⟨j,want⟩:=p
   rw [hg] at h
   obtain ⟨d,h1,⟨t,h2,h3⟩|⟨h2,h3⟩⟩:=h
   rotate_left
   · have hd:=ht d
     rw [h2] at hd
     have hu : a.tmps.getD d undef = undef:=by
      revert hd
      generalize a.tmps.getD d undef = x
      intro hd
      cases hd;rfl
     have hy : yielded ops a.tmps j = none:=by
      unfold yielded
      rw [h1]
      rw [Array.getD_eq_getD_getElem?] at hu
      cases hx : a.tmps[d]? with
      | none => simp [hx]
      | some u => rw [hx] at hu; simp at hu; subst hu; simp [hx, undef]
     simp only
     rw [hy,h3]
     cases want <;> rfl
   simp only
   have hd:=ht d
   rw [h2] at hd
   have:=et hd
   have hq : a.tmps[d]? = some (.bool t):=by
    rw [Array.getD_eq_getD_getElem?] at this
    cases hx : a.tmps[d]? with
    | none => rw [hx] at this; simp [undef] at this
    | some u => rw [hx] at this; simp at this; rw [this]
   have hy : yielded ops a.tmps j = some t:=by
    unfold yielded
    rw [h1]
    simp [hq]
   rw [hy,h3]
   cases t <;> cases want <;> rfl
theorem i4 (hT : cP P ti) {lo N : Nat} {w0 w : World} {φ0 : Nat → Loc} {hp0 : Hp} {tm : Nat → AV} {hp : Hp} {a : Act} {e : TE} {Q : Exit → Act → World → Prop} {K : Act → World → Prop} (hV : Val P ti ops tm hp e) (hC : fl lo w0 φ0 hp0 N tm hp a w) (hd : ∀ d,e.o.dst = some d → d < N)
  (hK : ∀ a' w',fl lo w0 φ0 hp0 N (fb tm e) (fm hp e) a' w' → K a' w') : if Region.wanted e.o (yielded ops a.tmps) then e.o.wp P a w K Q ∨ (e.o.asks P a w ∧ LetsOut Q) else K (a.put e.o.dst undef) w:=by
 obtain ⟨h1,h2⟩:=hV
 obtain ⟨φ,H,EV0,ht,hdf,hN⟩:=hC
 unfold fb fm at hK
 cases hs : e.st with
 | skip =>
   rw [hs] at h2 hK
   rw [jP ht h2]
   simp only [Bool.false_eq_true,if_false]
   refine hK _ _ ?_
   obtain ⟨p1,p2,p3⟩:=ni (av:=.k undef) (v:=undef) ht hN hd (.k _)
   exact ⟨φ,H,EV0,p1,p2.trans hdf,p3⟩
 | run E ν =>
   rw [hs] at h2 hK
   obtain ⟨g1,g2,g3,g4,g5⟩:=h2
   rw [jP ht g1,if_pos rfl]
   exact .inl (Oper.wp_mono hK (rr hT g2 ⟨φ,H,EV0,ht,hdf,hN⟩ hd g3 g4 g5))
theorem mo (hT : cP P ti) {lo N : Nat} {w0 : World} {φ0 : Nat → Loc} {hp0 : Hp} {Q : Exit → Act → World → Prop} : ∀ (R : List TE) (tm : Nat → AV) (hp : Hp) (a : Act) (w : World),TrV P ti ops R tm hp → (∀ e,e ∈ R → ∀ d,e.o.dst = some d → d < N) → fl lo w0 φ0 hp0 N tm hp a w →
  (∀ a' w',fl lo w0 φ0 hp0 N (lu R tm) (lw R hp) a' w' → Q .normal a' w') → wpList P ops Q (R.map (·.o)) a w:=by
 intro R
 induction R with
 | nil => intro tm hp a w _ _ hC hQ; exact hQ _ _ hC
 | cons e R ih =>
   intro tm hp a w hV hd hC hQ
   obtain ⟨h1,h2⟩:=hV
   have:=i4 (Q:=Q) (K:=wpList P ops Q (R.map (·.o))) hT h1 hC (hd e (by simp)) fun a' w' hC'=>ih _ _ _ _ h2 (fun e' he'=>hd e' (List.mem_cons_of_mem _ he')) hC' hQ
   simp only [List.map_cons,wpList]
   exact this
def edge (ops : Array Oper) (j i : Nat) : Bool :=
 match ops[i]? with
 | some o => o.after.any fun e => Region.binds .any e && e.on == j
 | none => false
inductive Reach (ops : Array Oper) : Nat → Nat → Prop where
 | edge {j i : Nat} (h : edge ops j i = true) : Reach ops j i
 | trans {j k i : Nat} (h : Reach ops j k) (e : edge ops k i = true) : Reach ops j i
def mp (acc : List Nat) : List Edge → Nat
 | [] => 0
 | e :: l => if Region.binds .any e then (mp acc l ||| (1 <<< e.on)) ||| acc.getD e.on 0 else mp acc l
def sO : List Oper → List Nat → List Nat
 | [], acc => acc
 | o :: l, acc => sO l (acc ++ [mp acc o.after.toList])
def i5 (ops : Array Oper) (j i : Nat) : Bool:=edge ops j i || ((sO ops.toList []).getD i 0).testBit j
theorem pD {acc : List Nat} {j : Nat} : ∀ {l : List Edge},(mp acc l).testBit j = true → ∃ e,e ∈ l ∧ Region.binds .any e = true ∧ (e.on = j ∨ (acc.getD e.on 0).testBit j = true):=by
 intro l
 induction l with
 | nil => intro h; simp [mp] at h
 | cons e l ih =>
   intro h
   unfold mp at h
   split at h
   · rename_i hb
     rw [Nat.testBit_or,Nat.testBit_or,Bool.or_eq_true,Bool.or_eq_true] at h
     rcases h with (h|h)|h
     · obtain ⟨e',h1,h2⟩:=ih h
       exact ⟨e',List.mem_cons_of_mem _ h1,h2⟩
     · refine ⟨e,List.mem_cons_self,hb,.inl ?_⟩
       rw [Nat.one_shiftLeft,Nat.testBit_two_pow] at h
       simpa using h
     · exact ⟨e,List.mem_cons_self,hb,.inr h⟩
   · obtain ⟨e',h1,h2⟩:=ih h
     exact ⟨e',List.mem_cons_of_mem _ h1,h2⟩
theorem mq {ops : Array Oper} : ∀ (l : List Oper) (pre : List Oper) (acc : List Nat),ops.toList = pre ++ l → acc.length = pre.length → (∀ i j,(acc.getD i 0).testBit j = true → Reach ops j i) → ∀ i j,((sO l acc).getD i 0).testBit j = true → Reach ops j i:=by
 intro l
 induction l with
 | nil => intro pre acc _ _ h; exact h
 | cons o l ih =>
   intro pre acc hp hl h
   refine ih (pre ++ [o]) (acc ++ [mp acc o.after.toList]) (by rw [hp];simp) (by simp [hl]) fun i j hb=>?_
   rw [List.getD_eq_getElem?_getD] at hb
   rcases Nat.lt_trichotomy i acc.length with hi|hi|hi
   · rw [List.getElem?_append_left hi,← List.getD_eq_getElem?_getD] at hb
     exact h i j hb
   · rw [List.getElem?_append_right (by omega),hi] at hb
     simp only [Nat.sub_self,List.getElem?_cons_zero,Option.getD_some] at hb
     obtain ⟨e,h1,h2,h3⟩:=pD hb
     have hop : ops[i]? = some o:=by
      rw [← Array.getElem?_toList,hp,List.getElem?_append_right (by omega),hi,hl];simp
     have he : edge ops e.on i = true:=by
      unfold edge
      rw [hop]
      simp only
      rw [← Array.any_toList]
      exact List.any_eq_true.2 ⟨e,h1,by simp [h2]⟩
     rcases h3 with h3|h3
     · rw [← h3];exact .edge he
     · exact .trans (h _ _ h3) he
   · rw [List.getElem?_eq_none (by simp;omega)] at hb
     simp at hb
theorem pE {ops : Array Oper} {j i : Nat} (h : i5 ops j i = true) : Reach ops j i:=by
 unfold i5 at h
 rw [Bool.or_eq_true] at h
 rcases h with h|h
 · exact .edge h
 · exact mq ops.toList [] [] rfl rfl (fun i j h=>by simp at h) i j h
def pF (ops : Array Oper) : Bool:=(List.range ops.size).all fun i =>
 match ops[i]? with
 | some o => (o.after.all fun e => !Region.binds .any e || decide (e.on < i)) && (List.range i).all fun j => edge ops j i || match ops[j]? with
   | some oj => Oper.apart ops oj o
   | none => false
 | none => false
def ij (ops : Array Oper) : List (Nat × Nat):=(List.range ops.size).flatMap fun i=>(List.range i).filterMap fun j=>if i5 ops j i then none else some (j,i)
def mr (ps : List (Nat × Nat)) (acc : List Foot) : Prop:=∀ p,p ∈ ps → sm (acc.getD p.1 ⟨[],[],[]⟩) (acc.getD p.2 ⟨[],[],[]⟩)
structure Lst (ops : Array Oper) (R : List TE) (listed : Array Bool) : Prop where
 size : listed.size = ops.size
 ord : (R.map (·.i)).Pairwise (· < ·)
 mem : ∀ i,i < ops.size → (listed.getD i true = false ↔ i ∈ R.map (·.i))
 op : ∀ e,e ∈ R → ops[e.i]? = some e.o
 cl : ∀ i,listed.getD i false = true → ∀ j,edge ops j i = true → listed.getD j false = true
theorem jQ {listed : Array Bool} {i : Nat} (h : i ∈ Region.ready .any ops listed) : i < ops.size ∧ listed.getD i true = false ∧ ∀ o,ops[i]? = some o → ∀ e,e ∈ o.after.toList → Region.binds .any e = true → listed.getD e.on false = true:=by
 unfold Region.ready at h
 obtain ⟨h1,h2⟩:=List.mem_filter.1 h
 simp only [List.mem_range] at h1
 simp only [Bool.and_eq_true,Bool.not_eq_true'] at h2
 refine ⟨h1,h2.1,fun o ho e he hb=>?_⟩
 have h3:=h2.2
 rw [ho] at h3
 simp only [Option.map_some,Option.getD_some] at h3
 rw [← Array.all_toList] at h3
 have:=List.all_eq_true.1 h3 e he
 simpa [hb] using this
theorem pG {listed : Array Bool} {i : Nat} {o : Oper} (h1 : i < ops.size) (h2 : listed.getD i true = false) (ho : ops[i]? = some o) (h : ∀ e,e ∈ o.after.toList → Region.binds .any e = true → listed.getD e.on false = true) : i ∈ Region.ready .any ops listed:=by
 unfold Region.ready
 refine List.mem_filter.2 ⟨List.mem_range.2 h1,?_⟩
 simp only [Bool.and_eq_true,Bool.not_eq_true']
 refine ⟨h2,?_⟩
 rw [ho]
 simp only [Option.map_some,Option.getD_some]
 rw [← Array.all_toList]
 refine List.all_eq_true.2 fun e he=>?_
 cases hb : Region.binds .any e with
 | false => rfl
 | true => simp [h e he hb]
theorem oe (hT : cP P ti) (hst : pF ops = true) {lo N : Nat} {w0 : World} {φ0 : Nat → Loc} {hp0 : Hp} {Q : Exit → Act → World → Prop} : ∀ (n : Nat) (R : List TE) (listed : Array Bool) (tm : Nat → AV) (hp : Hp) (a : Act) (w : World),R.length = n → Lst ops R listed → TrV P ti ops R tm hp →
  (∀ α β e,R = α ++ e :: β → ∀ x,x ∈ α → Reach ops x.i e.i ∨ Ind ops x e) → (∀ e,e ∈ R → ∀ d,e.o.dst = some d → d < N) → fl lo w0 φ0 hp0 N tm hp a w →
  (∀ a' w',fl lo w0 φ0 hp0 N (lu R tm) (lw R hp) a' w' → Q .normal a' w') → wpAny P .any ops Q n listed a w:=by
 intro n
 induction n with
 | zero =>
   intro R listed tm hp a w hn hL hV hI hd hC hQ
   have : R = []:=List.eq_nil_of_length_eq_zero hn
   subst this
   refine ⟨?_,hQ _ _ hC⟩
   refine List.eq_nil_iff_forall_not_mem.2 fun i hi=>?_
   obtain ⟨h1,h2,_⟩:=jQ hi
   have:=(hL.mem i h1).1 h2
   simp at this
 | succ n ih =>
   intro R listed tm hp a w hn hL hV hI hd hC hQ
   refine ⟨fun hr=>?_,fun i hi=>?_⟩
   · exfalso
     match R,hn with
     | e :: R, _ =>
       have hop:=hL.op e (by simp)
       have hlt : e.i < ops.size:=(Array.getElem?_eq_some_iff.1 hop).1
       have hun:=(hL.mem e.i hlt).2 (by simp)
       have hready : e.i ∈ Region.ready .any ops listed:=by
        refine pG hlt hun hop fun ed hed hb=>?_
        have hs:=List.all_eq_true.1 hst e.i (List.mem_range.2 hlt)
        rw [hop] at hs
        simp only [Bool.and_eq_true] at hs
        have h1:=hs.1
        rw [← Array.all_toList] at h1
        have h2:=List.all_eq_true.1 h1 ed hed
        simp [hb] at h2
        have h3 : ed.on < ops.size:=by omega
        cases hq : listed.getD ed.on true with
        | true =>
          have : ed.on < listed.size:=by rw [hL.size];exact h3
          simp [Array.getD_eq_getD_getElem?,this] at hq ⊢
          exact hq
        | false =>
          exfalso
          have hm:=(hL.mem ed.on h3).1 hq
          have hp:=hL.ord
          rw [List.map_cons,List.pairwise_cons] at hp
          rw [List.map_cons] at hm
          rcases List.mem_cons.1 hm with h|h
          · omega
          · have:=hp.1 _ h;omega
       rw [hr] at hready
       cases hready
   · obtain ⟨h1,h2,h3⟩:=jQ hi
     have hm:=(hL.mem i h1).1 h2
     obtain ⟨e,he,hei⟩:=List.mem_map.1 hm
     subst hei
     obtain ⟨α,β,rfl⟩:=List.append_of_mem he
     have hop:=hL.op e (by simp)
     have hne : ∀ x,x ∈ α ++ β → x.i ≠ e.i:=by
      intro x hx
      have hp:=hL.ord
      rw [List.map_append,List.map_cons,List.pairwise_append,List.pairwise_cons] at hp
      rcases List.mem_append.1 hx with h|h
      · have:=hp.2.2 x.i (List.mem_map.2 ⟨x,h,rfl⟩) e.i (by simp);omega
      · have:=hp.2.1.1 x.i (List.mem_map.2 ⟨x,h,rfl⟩);omega
     have hInd : ∀ x,x ∈ α → Ind ops x e:=by
      intro x hx
      rcases hI α β e rfl x hx with h|h
      · exfalso
        have hdir : ∀ j,edge ops j e.i = true → listed.getD j false = true:=fun j h=>by
         unfold edge at h
         rw [hop] at h
         simp only at h
         rw [← Array.any_toList] at h
         obtain ⟨ed,hed,hb⟩:=List.any_eq_true.1 h
         simp only [Bool.and_eq_true,beq_iff_eq] at hb
         have h4:=h3 e.o hop ed hed hb.1
         rwa [hb.2] at h4
        have hcl : ∀ {j k : Nat},Reach ops j k → listed.getD k false = true → listed.getD j false = true:=fun h=>by
         induction h with
         | edge h => exact fun hk => hL.cl _ hk _ h
         | trans _ h ih => exact fun hk => ih (hL.cl _ hk _ h)
        have h4 : listed.getD x.i false = true:=by
         cases h with
         | edge h => exact hdir _ h
         | trans h h' => exact hcl h (hdir _ h')
        have hxo:=hL.op x (by simp [hx])
        have hxl : x.i < ops.size:=(Array.getElem?_eq_some_iff.1 hxo).1
        have h5:=(hL.mem x.i hxl).2 (List.mem_map.2 ⟨x,by simp [hx],rfl⟩)
        have h6 : x.i < listed.size:=by rw [hL.size];exact hxl
        simp [Array.getD_eq_getD_getElem?,h6] at h4 h5
        rw [h4] at h5;cases h5
      · exact h
     obtain ⟨k1,k2,k3,k4⟩:=pick α tm hp hInd hV
     unfold wpOp
     rw [hop]
     refine i4 hT k1 hC (hd e (by simp)) fun a' w' hC'=>?_
     refine ih (α ++ β) _ _ _ a' w' (by simp at hn ⊢;omega) ⟨by simp [hL.size],?_,fun i hi=>?_,fun x hx=>hL.op x ?_,fun i hli j hj=>?_⟩ k2 (fun α' β' x hx y hy=>?_) (fun x hx=>hd x ?_) hC' (by rw [k3,k4];exact hQ)
     · refine hL.ord.sublist ?_
       rw [List.map_append,List.map_append,List.map_cons]
       exact List.Sublist.append (List.Sublist.refl _) (List.sublist_cons_self _ _)
     · have hb:=hL.mem i hi
       have hli : i < listed.size:=by rw [hL.size];exact hi
       by_cases e1 : i = e.i
       · subst e1
         constructor
         · intro h;simp [Array.getD_eq_getD_getElem?,hli] at h
         · intro h
           obtain ⟨x,hx,hxi⟩:=List.mem_map.1 h
           exact absurd hxi (hne x hx)
       · have e2 : (listed.setIfInBounds e.i true).getD i true = listed.getD i true:=by
          rw [Array.getD_eq_getD_getElem?,Array.getD_eq_getD_getElem?,Array.getElem?_setIfInBounds_ne (fun h=>e1 h.symm)]
         rw [e2,hb]
         simp only [List.map_append,List.map_cons,List.mem_append,List.mem_cons]
         constructor
         · rintro (h|h|h)
           · exact .inl h
           · exact absurd h e1
           · exact .inr h
         · rintro (h|h)
           · exact .inl h
           · exact .inr (.inr h)
     · rcases List.mem_append.1 hx with h|h
       · exact List.mem_append_left _ h
       · exact List.mem_append_right _ (List.mem_cons_of_mem _ h)
     · have hget : ∀ k,listed.getD k false = true → (listed.setIfInBounds e.i true).getD k false = true:=fun k hk=>by
        by_cases ek : k = e.i
        · have : k < listed.size:=by
           refine Nat.lt_of_not_le fun hge=>?_
           simp [Array.getD_eq_getD_getElem?,Array.getElem?_eq_none hge] at hk
          rw [← ek]
          simp [Array.getD_eq_getD_getElem?,this]
        · rw [Array.getD_eq_getD_getElem?,Array.getElem?_setIfInBounds_ne (fun h=>ek h.symm),← Array.getD_eq_getD_getElem?];exact hk
       by_cases ei : i = e.i
       · refine hget j ?_
         rw [ei] at hj
         unfold edge at hj
         rw [hop] at hj
         simp only at hj
         rw [← Array.any_toList] at hj
         obtain ⟨ed,hed,hb⟩:=List.any_eq_true.1 hj
         simp only [Bool.and_eq_true,beq_iff_eq] at hb
         have h4:=h3 e.o hop ed hed hb.1
         rwa [hb.2] at h4
       · refine hget j (hL.cl i ?_ j hj)
         rwa [Array.getD_eq_getD_getElem?,Array.getElem?_setIfInBounds_ne (fun h=>ei h.symm),← Array.getD_eq_getD_getElem?] at hli
     ·
      have hsplit : ∃ α2 β2,α ++ e :: β = α2 ++ x :: β2 ∧ y ∈ α2:=by
       rcases List.append_eq_append_iff.1 hx with ⟨m,m1,m2⟩|⟨m,m1,m2⟩
       ·
        exact ⟨α ++ e :: m,β',by rw [m2];simp,by
         rw [m1] at hy
         rcases List.mem_append.1 hy with h|h
         · exact List.mem_append_left _ h
         · exact List.mem_append_right _ (List.mem_cons_of_mem _ h)⟩
       · cases m with
         | nil =>
           simp only [List.nil_append] at m2
           simp only [List.append_nil] at m1
           exact ⟨α ++ [e],β',by rw [← m2];simp,by rw [m1];exact List.mem_append_left _ hy⟩
         | cons z m =>
           simp only [List.cons_append,List.cons.injEq] at m2
           obtain ⟨rfl,m2⟩:=m2
           exact ⟨α',m ++ e :: β,by rw [m1];simp,hy⟩
      obtain ⟨α2,β2,q1,q2⟩:=hsplit
      exact hI α2 β2 x q1 y q2
     · rcases List.mem_append.1 hx with h|h
       · exact List.mem_append_left _ h
       · exact List.mem_append_right _ (List.mem_cons_of_mem _ h)
end
end Go.Proofs.Ytlodllmpndflcaa
namespace Go.Proofs.Ytlodllmpndflcaa
set_option linter.unusedVariables false
set_option linter.unusedSimpArgs false
open Go.RowKit
abbrev fp:=Exit → (Nat → AV) → Hp → Prop
def Aw (P : Program) (N : Nat) (hp0 : Hp) (c : Code) (Q : fp) (tm : Nat → AV) (hp : Hp) : Prop :=
 ∀ lo w0 φ0 a w,fl lo w0 φ0 hp0 N tm hp a w → c.wp P (fun e a' w'=>∃ tm' hp',fl lo w0 φ0 hp0 N tm' hp' a' w' ∧ Q e tm' hp') a w
def rt (K : (Nat → AV) → Hp → Prop) (Q : fp) : fp
 | .normal, tm, hp => K tm hp
 | e, tm, hp => Q e tm hp
def pI (id : Nat) (Q : fp) : fp
 | .exit id', tm, hp => if id' = id then Q .normal tm hp else Q (.exit id') tm hp
 | e, tm, hp => Q e tm hp
def Le (hp0 : Hp) (tm : Nat → AV) (hp : Hp) (tm' : Nat → AV) (hp' : Hp) : Prop:=∀ lo w0 φ0 N a w,fl lo w0 φ0 hp0 N tm hp a w → fl lo w0 φ0 hp0 N tm' hp' a w
theorem Le.refl (hp0 : Hp) (tm : Nat → AV) (hp : Hp) : Le hp0 tm hp tm hp:=fun _ _ _ _ _ _ h=>h
theorem Le.trans {hp0 : Hp} {a b c : Nat → AV} {x y z : Hp} (h : Le hp0 a x b y) (k : Le hp0 b y c z) : Le hp0 a x c z:=fun _ _ _ _ _ _ hc=>k _ _ _ _ _ _ (h _ _ _ _ _ _ hc)
def gt (N : Nat) (ops : Array Oper) : Bool:=ops.all fun o=>match o.dst with
 | some d => decide (d < N)
 | none => true
section
variable {P : Program} {ti : TI} {N : Nat} {hp0 : Hp} {Q : fp} {tm : Nat → AV} {hp : Hp}
theorem Aw.mono {c : Code} {Q' : fp} (h : Aw P N hp0 c Q tm hp) (hq : ∀ e tm hp,Q e tm hp → Q' e tm hp) : Aw P N hp0 c Q' tm hp :=
 fun lo w0 φ0 a w hC=>wp_mono (h lo w0 φ0 a w hC) fun e a w ⟨tm',hp',h1,h2⟩=>⟨tm',hp',h1,hq _ _ _ h2⟩
theorem ru (h : Q .normal tm hp) : Aw P N hp0 .skip Q tm hp:=fun _ _ _ _ _ hC=>wp_skip ⟨_,_,hC,h⟩
theorem pJ {l : Nat} (h : Q .normal tm hp) : Aw P N hp0 (.label l) Q tm hp:=fun _ _ _ _ _ hC=>wp_label ⟨_,_,hC,h⟩
theorem rv {id : Nat} (h : Q (.exit id) tm hp) : Aw P N hp0 (.exit id) Q tm hp:=fun _ _ _ _ _ hC=>wp_exit ⟨_,_,hC,h⟩
theorem sP (h : Q .ret tm hp) : Aw P N hp0 .ret Q tm hp:=fun _ _ _ _ _ hC=>wp_ret ⟨_,_,hC,h⟩
theorem sQ {x y : Code} (h : ∀ K : (Nat → AV) → Hp → Prop,(∀ tm hp,Aw P N hp0 y Q tm hp → K tm hp) → Aw P N hp0 x (rt K Q) tm hp) : Aw P N hp0 (.seq x y) Q tm hp:=by
 intro lo w0 φ0 a w hC
 refine wp_seq (wp_mono (h _ (fun _ _ h=>h) lo w0 φ0 a w hC) fun e a' w' ⟨tm',hp',h1,h2⟩=>?_)
 cases e with
 | normal => exact h2 lo w0 φ0 a' w' h1
 | _ => exact ⟨tm', hp', h1, h2⟩
theorem kB {c : Operand} {x y : Code} {b : Bool} (hc : evT tm c = .c (.bool b)) (h1 : b = true → Aw P N hp0 x Q tm hp) (h2 : b = false → Aw P N hp0 y Q tm hp) : Aw P N hp0 (.cond c x y) Q tm hp:=by
 intro lo w0 φ0 a w hC
 obtain ⟨φ,H,EV0,ht,hd⟩:=hC
 have:=kA ht c
 rw [hc] at this
 refine wp_cond (et this) ?_
 cases b
 · exact h2 rfl lo w0 φ0 a w ⟨φ,H,EV0,ht,hd⟩
 · exact h1 rfl lo w0 φ0 a w ⟨φ,H,EV0,ht,hd⟩
theorem pK {id : Nat} {c : Code} (h : Aw P N hp0 c (pI id Q) tm hp) : Aw P N hp0 (.block id c) Q tm hp:=by
 intro lo w0 φ0 a w hC
 refine wp_block (wp_mono (h lo w0 φ0 a w hC) fun e a' w' ⟨tm',hp',h1,h2⟩=>?_)
 cases e with
 | exit id' =>
   simp only [Exit.inBlock]
   simp only [pI] at h2
   by_cases e : id' = id
   · rw [if_pos e] at h2 ⊢;exact ⟨tm',hp',h1,h2⟩
   · rw [if_neg e] at h2 ⊢;exact ⟨tm',hp',h1,h2⟩
 | _ => exact ⟨tm', hp', h1, h2⟩
theorem pL {p : Nat → Prop} (h : ∃ n,p n) : ∃ n,p n ∧ ∀ m,m < n → ¬ p m:=by
 obtain ⟨n,hn⟩:=h
 induction n using Nat.strongRecOn with
 | _ n ih =>
   by_cases hm : ∃ m,m < n ∧ p m
   · obtain ⟨m,h1,h2⟩:=hm;exact ih m h1 h2
   · exact ⟨n,hn,fun m h1 h2=>hm ⟨m,h1,h2⟩⟩
noncomputable def lC (p : Nat → Prop) : Nat:=@dite Nat (∃ n,p n) (Classical.propDecidable _) (fun h=>Classical.choose (pL h)) (fun _=>0)
theorem ms {p : Nat → Prop} (h : ∃ n,p n) : p (lC p) ∧ ∀ m,m < lC p → ¬ p m:=by
 have e : lC p = Classical.choose (pL h):=by unfold lC;exact dif_pos h
 rw [e]
 exact Classical.choose_spec (pL h)
theorem rx {X : Type} (st : X → (Nat → AV) × Hp) (Inv : X → Prop) (μ : X → Nat) {c : Code} (h0 : ∃ x,Inv x ∧ Le hp0 tm hp (st x).1 (st x).2)
  (hr : ∀ x,Inv x → Aw P N hp0 c (rt (fun tm2 hp2=>∃ y,Inv y ∧ μ y < μ x ∧ Le hp0 tm2 hp2 (st y).1 (st y).2) Q) (st x).1 (st x).2) : Aw P N hp0 (.loop c) Q tm hp:=by
 intro lo w0 φ0 a w hC
 let p : Act → World → Nat → Prop:=fun a w n=>∃ x,Inv x ∧ fl lo w0 φ0 hp0 N (st x).1 (st x).2 a w ∧ μ x = n
 let m : Act → World → Nat:=fun a w=>lC (p a w)
 have hm : ∀ a w,(∃ n,p a w n) → p a w (m a w) ∧ ∀ k,k < m a w → ¬ p a w k:=fun a w h=>ms h
 refine wp_loop (fun a w=>∃ n,p a w n) m ?_ fun a w hI=>?_
 · obtain ⟨x,h1,h2⟩:=h0
   exact ⟨_,x,h1,h2 _ _ _ _ _ _ hC,rfl⟩
 · obtain ⟨⟨x,h1,h2,h3⟩,h4⟩:=hm a w hI
   refine wp_mono (hr x h1 lo w0 φ0 a w h2) fun e a' w' ⟨tm',hp',h5,h6⟩=>?_
   cases e with
   | normal =>
     obtain ⟨y,g1,g2,g3⟩:=h6
     have hp' : p a' w' (μ y):=⟨y,g1,g3 _ _ _ _ _ _ h5,rfl⟩
     refine ⟨⟨_,hp'⟩,?_⟩
     have:=(hm a' w' ⟨_,hp'⟩).2
     rcases Nat.lt_or_ge (m a' w') (m a w) with h|h
     · exact h
     · exact absurd hp' (this (μ y) (by omega))
   | _ => exact ⟨tm', hp', h5, h6⟩
theorem og {id : Nat} {ops : List Oper} {draw : Bool} (hT : cP P ti) (hd : draw = false) (hN : gt N ops.toArray = true) (h : d9 P ti ops.toArray ops (fun _ tm hp=>Q .normal tm hp) [] tm hp) : Aw P N hp0 (.region id ops.toArray draw) Q tm hp:=by
 subst hd
 intro lo w0 φ0 a w hC
 obtain ⟨φ,H,EV0,ht,hdf,hsz⟩:=hC
 obtain ⟨R,r1,r2,r3,r4⟩:=sn (ops:=ops.toArray) ops 0 [] tm hp H.fin h
 have hdst : ∀ e,e ∈ R → ∀ d,e.o.dst = some d → d < N:=by
  intro e he d hd
  have hm : e.o ∈ ops:=by rw [← r1];exact List.mem_map.2 ⟨e,he,rfl⟩
  unfold gt at hN
  rw [← Array.all_toList] at hN
  have:=List.all_eq_true.1 hN e.o hm
  rw [hd] at this
  simpa using this
 have:=mo (ops:=ops.toArray) (Q:=fun e a' w'=>∃ tm' hp',fl lo w0 φ0 hp0 N tm' hp' a' w' ∧ Q e tm' hp') hT R tm hp a w r3 hdst ⟨φ,H,EV0,ht,hdf,hsz⟩ fun a' w' hC'=>⟨_,_,hC',r4⟩
 rw [r1] at this
 exact wp_region_lit this
theorem ik {R : List TE} {i : Nat} {e : TE} (h : R[i]? = some e) : (R.map (·.ft)).getD i ⟨[],[],[]⟩ = e.ft:=by
 simp [List.getD_eq_getElem?_getD,h]
theorem ry {id : Nat} {ops : List Oper} {draw : Bool} (hT : cP P ti) (hm : P.follows .mixedOrders = true) (hd : draw = true) (hN : gt N ops.toArray = true) (hst : pF ops.toArray = true) (ps : List (Nat × Nat)) (hps : ij ops.toArray = ps)
  (h : d9 P ti ops.toArray ops (fun acc tm hp=>mr ps acc ∧ Q .normal tm hp) [] tm hp) : Aw P N hp0 (.region id ops.toArray draw) Q tm hp:=by
 subst hd hps
 intro lo w0 φ0 a w hC
 obtain ⟨φ,H,EV0,ht,hdf,hsz⟩:=hC
 obtain ⟨R,r1,r2,r3,r4,r5⟩:=sn (ops:=ops.toArray) ops 0 [] tm hp H.fin h
 rw [List.nil_append] at r4
 have hdst : ∀ e,e ∈ R → ∀ d,e.o.dst = some d → d < N:=by
  intro e he d hd
  have hm : e.o ∈ ops:=by rw [← r1];exact List.mem_map.2 ⟨e,he,rfl⟩
  unfold gt at hN
  rw [← Array.all_toList] at hN
  have:=List.all_eq_true.1 hN e.o hm
  rw [hd] at this
  simpa using this
 have hlen : R.length = ops.length:=by have:=congrArg List.length r1;simpa using this
 have hidx : ∀ (k : Nat) (e : TE),R[k]? = some e → e.i = k ∧ ops[k]? = some e.o:=by
  intro k e hk
  have hkl : k < R.length:=(List.getElem?_eq_some_iff.1 hk).1
  have h1:=congrArg (fun l=>l[k]?) r2
  have h2:=congrArg (fun l=>l[k]?) r1
  simp only [List.getElem?_map,hk,Option.map_some] at h1 h2
  rw [List.getElem?_range' (by omega)] at h1
  simp at h1
  exact ⟨h1,h2.symm⟩
 have hC' : fl lo w0 φ0 hp0 N tm hp a { w with drawn:=w.drawn + 1 }:=by
  obtain ⟨H',E⟩:=H.same (w':={ w with drawn:=w.drawn + 1 }) rfl rfl rfl rfl
  exact ⟨φ,H',EV0.trans E,fun t=>(ht t).evo E,hdf,hsz⟩
 refine wp_region_any hm ?_
 refine oe (ops:=ops.toArray) hT hst (lo:=lo) (w0:=w0) (φ0:=φ0) (hp0:=hp0) (N:=N) ops.toArray.size R _ tm hp a _ (by simp [hlen]) ⟨by simp,?_,fun i hi=>?_,fun e he=>?_,fun i hi=>?_⟩ r3 (fun α β e hR x hx=>?_) hdst hC' (fun a' w' hC2=>⟨_,_,hC2,r5⟩)
 · rw [r2];exact List.pairwise_lt_range' ..
 · simp only [List.size_toArray] at hi
   constructor
   · intro _;rw [r2];simp [List.mem_range'_1];omega
   · intro _;simp [Array.getD_eq_getD_getElem?,hi]
 · obtain ⟨k,hk,e1⟩:=List.getElem_of_mem he
   obtain ⟨h1,h2⟩:=hidx k e (by rw [List.getElem?_eq_getElem hk,e1])
   rw [h1];simpa using h2
 · exfalso
   rw [Array.getD_eq_getD_getElem?,Array.getElem?_replicate] at hi
   split at hi <;> simp at hi
 · obtain ⟨j,hj,e1⟩:=List.getElem_of_mem hx
   have hxj : R[j]? = some x:=by rw [hR,List.getElem?_append_left hj,List.getElem?_eq_getElem hj,e1]
   have hek : R[α.length]? = some e:=by rw [hR];simp
   obtain ⟨i1,o1⟩:=hidx j x hxj
   obtain ⟨i2,o2⟩:=hidx α.length e hek
   have hel : α.length < ops.length:=(List.getElem?_eq_some_iff.1 o2).1
   cases hrch : i5 ops.toArray x.i e.i with
   | true => exact .inl (pE hrch)
   | false =>
     have hedge : edge ops.toArray x.i e.i = false:=by
      unfold i5 at hrch
      rw [Bool.or_eq_false_iff] at hrch
      exact hrch.1
     refine .inr ⟨?_,?_⟩
     · have hs:=List.all_eq_true.1 hst e.i (List.mem_range.2 (by simp;omega))
       have ho : ops.toArray[e.i]? = some e.o:=by rw [i2];simpa using o2
       have hox : ops.toArray[x.i]? = some x.o:=by rw [i1];simpa using o1
       rw [ho] at hs
       simp only [Bool.and_eq_true] at hs
       have:=List.all_eq_true.1 hs.2 x.i (List.mem_range.2 (by omega))
       rw [hedge,hox] at this
       simpa using this
     · have:=r4 (x.i,e.i) (List.mem_flatMap.2 ⟨e.i,List.mem_range.2 (by simp;omega),List.mem_filterMap.2 ⟨x.i,List.mem_range.2 (by omega),by simp [hrch]⟩⟩)
       simp only at this
       rw [i1,i2,ik hxj,ik hek] at this
       exact this
end
end Go.Proofs.Ytlodllmpndflcaa
namespace Go.Proofs.Ytlodllmpndflcaa
set_option linter.unusedVariables false
set_option linter.unusedSimpArgs false
open Go.RowKit
def Ext (hp0 : Hp) : Prop:=∀ ν e,hp0 ν = some e → e.kind = 3
def ba (P : Program) (f : FuncId) (args : List AV) (nw : List Ent) (val : List Nat → AV) : Prop :=
 (∃ fn, P.funcs[f]? = some fn ∧ fn.body.isNone = false ∧ (fn.name == "runtime.NumGoroutine") = false) ∧
 ∀ φ0 hp0 w (vs : List Value),Ext hp0 → HC φ0 hp0 w.heap.size w w → vs.length = args.length → (∀ i,i < args.length → AVC φ0 hp0 w (args.getD i .any) (vs.getD i undef)) →
  Calls P f vs.toArray w fun e w'=>∃ v,e = .returned v ∧ Out φ0 hp0 w.heap.size w w [] nw val v w'
def pM (args : List AV) : Nat → AV:=fun t=>args.getD t .any
def bY (ti : TI) (T : TypeId) (l : List AV) (off : Nat) : Option AV :=
 match ti T with
 | some t => if t.sh.isStruct then (if off + t.size ≤ l.length then some (.agg ((l.drop off).take t.size)) else none) else l[off]?
 | none => none
def bX (ti : TI) (tm : Nat → AV) (hp : Hp) : ResultVar → Option AV
 | .tmp t => some (tm t)
 | .cell t T => match tm t with
   | .ad ν off => match hp ν with
     | some (.box l) => bY ti T l off
     | _ => none
   | _ => none
def bU (ti : TI) (tm : Nat → AV) (hp : Hp) : List ResultVar → Option (List AV)
 | [] => some []
 | r :: l => match bX ti tm hp r, bU ti tm hp l with
   | some a, some as' => some (a :: as')
   | _, _ => none
def bR (ti : TI) (tm : Nat → AV) (hp : Hp) (l : List ResultVar) : Option AV :=
 match bU ti tm hp l with
 | some [a] => some a
 | some l => some (.tup l)
 | none => none
def sR (hp0 : Hp) (r : AV) (hp : Hp) (nw : List Ent) (val : List Nat → AV) : Prop :=
 ∀ w0 φ0 φ w v,Ext hp0 → HC φ0 hp0 w0.heap.size w0 w0 → HC φ hp w0.heap.size w0 w → Evo φ0 hp0 w0 φ hp w → AVC φ hp w r v → Out φ0 hp0 w0.heap.size w0 w0 [] nw val v w
def oh (ti : TI) (fn : Func) (hp0 : Hp) (nw : List Ent) (val : List Nat → AV) : fp:=fun e tm hp=>(e = .normal ∨ e = .ret) ∧ ∃ r,bR ti tm hp fn.results.toList = some r ∧ sR hp0 r hp nw val
section
variable {P : Program} {ti : TI}
theorem pN (hT : cP P ti) {φ : Nat → Loc} {hp : Hp} {lo : Nat} {w0 w : World} (H : HC φ hp lo w0 w) {T : TypeId} {ν off : Nat} {l : List AV} {a : AV} {u : Value} (he : hp ν = some (.box l)) (h : bY ti T l off = some a) (hu : AVC φ hp w (.ad ν off) u) :
  ∃ v,(Instr.loadAt T u).run P w = .ok v w ∧ AVC φ hp w a v:=by
 obtain ⟨g,n,cp,wd,hl,rfl⟩:=fW hu he
 obtain ⟨cur,T',h1,h2,h3⟩:=eu H he hl
 have hcell : ∀ j,j < l.length → w.cell? ⟨g,j,none⟩ = some (cur.toList.getD j undef):=fun j hj=>eS h1 (by
  rw [← Array.getElem?_toList,bI (by simp;omega)];simp)
 unfold bY at h
 split at h
 · rename_i t ht
   obtain ⟨i,z,d,hok⟩:=hT T t ht
   split at h
   · rename_i hs
     split at h
     · rename_i hsz
       injection h with h;subst h
       have hlen : ((cur.toList.drop off).take t.size).length = t.size:=by simp;omega
       refine ⟨_,fB hok hs _ hlen fun j hj=>?_,.agg (by rw [hlen];simp;omega) fun j hj=>?_⟩
       · rw [hlen] at hj;rw [ci hj];exact hcell (off + j) (by omega)
       · have hj' : j < t.size:=Nat.lt_of_lt_of_le hj (List.length_take_le _ _)
         rw [ci hj',ci hj',← fi cur];exact h3 (off + j) (by omega)
     · cases h
   · rename_i hs
     have hoff : off < l.length:=by
      rcases Nat.lt_or_ge off l.length with h'|h'
      · exact h'
      · rw [List.getElem?_eq_none h'] at h;cases h
     refine ⟨_,fA (by rw [fy hok];simp [hs]) (hcell off hoff),?_⟩
     have:=h3 off hoff
     rw [getD_some h,fi] at this
     exact this
 · cases h
def pO (tmps : Array Value) : ResultVar → Sem Value
 | .tmp t => pure (tmps.getD t undef)
 | .cell a t => do loadVar t (← asAddr (tmps.getD a undef))
theorem mu (hT : cP P ti) {φ : Nat → Loc} {hp : Hp} {lo : Nat} {w0 w : World} (H : HC φ hp lo w0 w) {tm : Nat → AV} {tmps : Array Value} (ht : ∀ t,AVC φ hp w (tm t) (tmps.getD t undef)) {r : ResultVar} {a : AV} (h : bX ti tm hp r = some a) :
  ∃ v,(pO tmps r).run P w = .ok v w ∧ AVC φ hp w a v:=by
 cases r with
 | tmp t => simp only [bX, Option.some.injEq] at h; subst h; exact ⟨_, rfl, ht t⟩
 | cell t T =>
   simp only [bX] at h
   split at h
   · rename_i ν off hν
     split at h
     · rename_i l he
       have hx:=ht t
       rw [hν] at hx
       obtain ⟨v,q1,q2⟩:=pN hT H he h hx
       obtain ⟨g,n,cp,wd,hl,e⟩:=fW hx he
       refine ⟨v,?_,q2⟩
       rw [e] at q1
       simp only [pO]
       rw [e]
       simpa [asAddr,Instr.loadAt,Instr.sureAddr] using q1
     · cases h
   · cases h
theorem mv (hT : cP P ti) {φ : Nat → Loc} {hp : Hp} {lo : Nat} {w0 w : World} (H : HC φ hp lo w0 w) {tm : Nat → AV} {tmps : Array Value} (ht : ∀ t,AVC φ hp w (tm t) (tmps.getD t undef)) : ∀ {l : List ResultVar} {L : List AV},bU ti tm hp l = some L →
  ∃ vs : List Value,(l.mapM (pO tmps)).run P w = .ok vs w ∧ vs.length = L.length ∧ ∀ i,i < L.length → AVC φ hp w (L.getD i .any) (vs.getD i undef):=by
 intro l
 induction l with
 | nil => intro L h; simp only [bU, Option.some.injEq] at h; subst h; exact ⟨[], by simp, rfl, fun i hi => by simp at hi⟩
 | cons r l ih =>
   intro L h
   simp only [bU] at h
   split at h
   · rename_i a as' ha hl
     simp only [Option.some.injEq] at h;subst h
     obtain ⟨v,q1,q2⟩:=mu hT H ht ha
     obtain ⟨vs,q3,q4,q5⟩:=ih hl
     refine ⟨v :: vs,?_,by simp [q4],fun i hi=>?_⟩
     · rw [List.mapM_cons,Sem.run_bind,q1]
       simp only [Result.andThen_ok,Sem.run_bind,q3,Sem.run_pure]
     · cases i with
       | zero => exact q2
       | succ i => simpa using q5 i (by simpa using hi)
   · cases h
theorem ju (hT : cP P ti) {φ : Nat → Loc} {hp : Hp} {lo : Nat} {w0 w : World} (H : HC φ hp lo w0 w) {tm : Nat → AV} {tmps : Array Value} (ht : ∀ t,AVC φ hp w (tm t) (tmps.getD t undef)) {fn : Func} {r : AV} (h : bR ti tm hp fn.results.toList = some r) :
  ∃ v,(results fn tmps).run P w = .ok v w ∧ AVC φ hp w r v:=by
 unfold bR at h
 obtain ⟨L,hL⟩ : ∃ L,bU ti tm hp fn.results.toList = some L:=by
  cases hq : bU ti tm hp fn.results.toList with
  | none => rw [hq] at h; cases h
  | some L => exact ⟨L, rfl⟩
 obtain ⟨vs,q1,q2,q3⟩:=mv (P:=P) hT H ht hL
 have hrun : (results fn tmps).run P w = .ok (if h : vs.toArray.size = 1 then vs.toArray[0] else .tuple vs.toArray) w:=by
  have e : results fn tmps = (do let vs ← fn.results.mapM (pO tmps);pure (if h : vs.size = 1 then vs[0] else .tuple vs)):=by
   unfold results
   have : (fun x : ResultVar=>match x with
    | .tmp t => (pure (tmps.getD t undef) : Sem Value)
    | .cell a t => do loadVar t (← asAddr (tmps.getD a undef))) = pO tmps := by funext x; cases x <;> rfl
   rw [← this]
   rfl
  rw [e,Array.mapM_eq_mapM_toList]
  simp [q1]
 rw [hL] at h
 match L,vs,q2,q3,h,hrun with
 | [a], [v], _, q3, h, hrun =>
   simp only [Option.some.injEq] at h;subst h
   exact ⟨v,by simpa using hrun,q3 0 (by simp)⟩
 | [], [], _, q3, h, hrun =>
   simp only [Option.some.injEq] at h;subst h
   exact ⟨_,by simpa using hrun,.tup (vs:=[]) rfl (fun i hi=>by simp at hi)⟩
 | a :: b :: L, v :: u :: vs, q2, q3, h, hrun =>
   simp only [Option.some.injEq] at h;subst h
   exact ⟨_,by simpa using hrun,.tup (vs:=v :: u :: vs) q2 q3⟩
end
end Go.Proofs.Ytlodllmpndflcaa
namespace Go.Proofs.Ytlodllmpndflcaa
set_option linter.unusedVariables false
set_option linter.unusedSimpArgs false
open Go.RowKit
section
variable {P : Program} {ti : TI}
theorem oi (hT : cP P ti) {f : FuncId} {fn : Func} {c : Code} {args : List AV} {nw : List Ent} {val : List Nat → AV} (hf : P.funcs[f]? = some fn) (hb : fn.body = some c) (hname : (fn.name == "runtime.NumGoroutine") = false) (hN : args.length ≤ fn.ntmps)
  (h : ∀ hp0,Ext hp0 → Aw P fn.ntmps hp0 c (oh ti fn hp0 nw val) (pM args) hp0) : ba P f args nw val:=by
 refine ⟨⟨fn,hf,by rw [hb];rfl,hname⟩,fun φ0 hp0 w vs hE H hl hv=>?_⟩
 refine calls_of_wp hf hb ?_
 have hC : fl w.heap.size w φ0 hp0 fn.ntmps (pM args) hp0 { tmps:=vs.toArray ++ Array.replicate (fn.ntmps - vs.toArray.size) undef,defers:=[] } w:=by
  refine ⟨φ0,H,Evo.refl _ _ _,fun t=>?_,rfl,by simp;omega⟩
  unfold pM
  by_cases ht : t < args.length
  · have:=hv t ht
    have e : (vs.toArray ++ Array.replicate (fn.ntmps - vs.toArray.size) undef).getD t undef = vs.getD t undef:=by
     have ht' : t < vs.length:=by omega
     rw [Array.getD_eq_getD_getElem?,Array.getElem?_append,if_pos (by simpa using ht'),List.getD_eq_getElem?_getD]
     simp
    rw [e];exact this
  · rw [List.getD_eq_getElem?_getD,List.getElem?_eq_none (by omega)]
    exact .any _
 refine wp_mono (h hp0 hE _ _ _ _ _ hC) fun e a' w' ⟨tm,hp,hC',hR,r,h1,h2⟩=>?_
 obtain ⟨φ,H',EV,ht,hd,_⟩:=hC'
 obtain ⟨v,q1,q2⟩:=ju hT H' ht h1
 have:=h2 w φ0 φ w' v hE H H' EV q2
 rcases hR with rfl|rfl
 · exact ⟨hd,v,q1,v,rfl,this⟩
 · exact ⟨hd,v,q1,v,rfl,this⟩
def ef (c c' : C) : Prop:=∀ (O : Nat → Prop) w v,Rd O w c v → Rd O w c' v
theorem ef.refl (c : C) : ef c c:=fun _ _ _ h=>h
theorem ef.unn (c : C) : ef (.nn c) c:=fun _ _ _ h=>h.unn
theorem ef.nul {c : C} {V : View} (hv : c.view = some V) (h0 : V.len = 0) (hn : c.isNN = false) : ef .nul c:=by
 intro O w v h
 cases h with
 | nul =>
   have:=Rd.sl (O:=O) (w:=w) (c:=c) (V:=V) (sa:=none) (cp:=0) (vs:=fun _ _=>undef) hv (fun e=>by rw [hn] at e;cases e) (by omega) (by omega) (fun _=>⟨h0,rfl⟩) (fun ad e=>by cases e) (fun ad e=>by cases e) (fun i hi=>by omega)
   rw [h0] at this;exact this
 | sl h => cases h
inductive LeV (hp hp' : Hp) (ρ : Nat → Nat) : AV → AV → Prop where
 | any (a : AV) : LeV hp hp' ρ a .any
 | rd {c c' : C} (h : ef c c') : LeV hp hp' ρ (.c c) (.c c')
 | k (v : Value) : LeV hp hp' ρ (.k v) (.k v)
 | sl {ν : Nat} {e : Ent} (h : hp' ν = some e) (hk : e.kind ≠ 3 ∧ e.kind ≠ 0) : LeV hp hp' ρ (.sl (ρ ν)) (.sl ν)
 | ad {ν off : Nat} {e : Ent} (h : hp' ν = some e) (hk : e.kind ≠ 3 ∧ e.kind ≠ 1) : LeV hp hp' ρ (.ad (ρ ν) off) (.ad ν off)
 | el (wd : Nat) (f : Nat → C) : LeV hp hp' ρ (.el wd f) (.el wd f)
 | fz {ν : Nat} {T : TypeId} {nn : Fl} {c c' : C} (h : hp ν = some (.arr T nn c)) (h' : ∀ y, ρ y = ν → hp' y = none ∨ hp' y = some .dead) (hr : ef (if nn.nn then .nn c else c) c') : LeV hp hp' ρ (.sl ν) (.c c')
 | fzb {ν : Nat} {l : List AV} {f : Nat → C} (h : hp ν = some (.box l)) (hc : ∀ i, i < l.length → ∃ c, l.getD i .any = .c c ∧ ef c (f i)) (h' : ∀ y, ρ y = ν → hp' y = none ∨ hp' y = some .dead) : LeV hp hp' ρ (.ad ν 0) (.el l.length f)
 | nul {ν : Nat} {T : TypeId} {nn : Fl} {c : C} (h : hp (ρ ν) = none) (h' : hp' ν = some (.arr T nn c)) : LeV hp hp' ρ (.c .nul) (.sl ν)
 | agg {l l' : List AV} (hl : l'.length = l.length) (h : ∀ i, i < l.length → LeV hp hp' ρ (l.getD i .any) (l'.getD i .any)) : LeV hp hp' ρ (.agg l) (.agg l')
 | fn {f : Fn} {l l' : List AV} (hl : l'.length = l.length) (h : ∀ i, i < l.length → LeV hp hp' ρ (l.getD i .any) (l'.getD i .any)) : LeV hp hp' ρ (.fn f l) (.fn f l')
def LeE (hp hp' : Hp) (ρ : Nat → Nat) (ν : Nat) : Ent → Prop
 | .dead => True
 | .ext => hp (ρ ν) = some .ext
 | .box l' => ∃ l, hp (ρ ν) = some (.box l) ∧ l'.length = l.length ∧ ∀ i, i < l.length → LeV hp hp' ρ (l.getD i .any) (l'.getD i .any)
 | .arr T nn' c' => (∃ nn c, hp (ρ ν) = some (.arr T nn c) ∧ ((nn'.nn = true → nn.nn = true) ∧ (nn'.hd = true → nn.hd = true)) ∧ c' = c) ∨ (hp (ρ ν) = none ∧ nn'.nn = false ∧ c'.isNN = false ∧ ∃ V, c'.view = some V ∧ V.len = 0)
noncomputable def fq (φ : Nat → Loc) (hp : Hp) (ρ : Nat → Nat) : Nat → Loc:=fun ν=>match hp (ρ ν) with
 | none => .nil
 | some _ => φ (ρ ν)
theorem eX {hp hp' : Hp} {ρ : Nat → Nat} {φ : Nat → Loc} (hE : ∀ ν e',hp' ν = some e' → LeE hp hp' ρ ν e') {ν b : Nat} (hl : cf hp' ν) (hb : (fq φ hp ρ ν).blk = some b) : cf hp (ρ ν) ∧ (φ (ρ ν)).blk = some b ∧ (jq hp' ν → jq hp (ρ ν)):=by
 obtain ⟨e',h1,h2⟩:=hl
 have h3:=hE ν e' h1
 unfold fq at hb
 cases hq : hp (ρ ν) with
 | none => rw [hq] at hb; cases hb
 | some e =>
   rw [hq] at hb
   cases e' with
   | dead => simp [Ent.kind] at h2
   | ext =>
     simp only [LeE] at h3
     rw [hq] at h3;injection h3 with h3;subst h3
     exact ⟨⟨_,hq,by simp [Ent.kind]⟩,hb,fun ⟨e2,g1,g2⟩=>by rw [h1] at g1;injection g1 with g1;subst g1;simp [Ent.kind] at g2⟩
   | box l' =>
     obtain ⟨l,g1,_⟩:=h3
     rw [hq] at g1;injection g1 with g1;subst g1
     exact ⟨⟨_,hq,by simp [Ent.kind]⟩,hb,fun _=>⟨_,hq,by simp [Ent.kind]⟩⟩
   | arr T nn' c' =>
     rcases h3 with ⟨nn,c,g1,_⟩|⟨g1,_⟩
     · rw [hq] at g1;injection g1 with g1;subst g1
       exact ⟨⟨_,hq,by simp [Ent.kind]⟩,hb,fun _=>⟨_,hq,by simp [Ent.kind]⟩⟩
     · rw [hq] at g1;cases g1
theorem pP {φ : Nat → Loc} {hp hp' : Hp} {ρ : Nat → Nat} {lo : Nat} {w0 w : World} (H : HC φ hp lo w0 w) (hE : ∀ ν e',hp' ν = some e' → LeE hp hp' ρ ν e') {a a' : AV} {v : Value} (h : LeV hp hp' ρ a a') (hv : AVC φ hp w a v) : AVC (fq φ hp ρ) hp' w a' v:=by
 have own : ∀ b,Own (fq φ hp ρ) hp' b → Own φ hp b:=fun b ⟨ν,h1,h2⟩=>let ⟨g1,g2,_⟩:=eX hE h1 h2;⟨ρ ν,g1,g2⟩
 have mono : ∀ {c v},Rd (Own φ hp) w c v → Rd (Own (fq φ hp ρ) hp') w c v:=fun h=>h.mono (fun b _ hb=>⟨rfl,fun h=>hb (own b h)⟩) (Nat.le_refl _)
 have hmap : ∀ ν e,hp (ρ ν) = some e → fq φ hp ρ ν = φ (ρ ν):=fun ν e he=>by unfold fq;rw [he]
 induction h generalizing v with
 | any => exact .any v
 | rd h => cases hv with | c hr => exact .c (h _ _ _ (mono hr))
 | k => cases hv; exact .k _
 | @sl ν e h hk =>
   cases hv with
   | @sl _ e0 h0 hk0 =>
     have h3:=hE ν e h
     rw [← hmap ν e0 h0]
     cases e with
     | dead => exact .sld h rfl _ (Loc.val_one _)
     | ext => simp [Ent.kind] at hk
     | box l => simp [Ent.kind] at hk
     | arr T nn c => exact .sl h rfl
   | @sld _ e0 h0 hk0 v hone =>
     have h3:=hE ν e h
     cases e with
     | dead => exact .sld h rfl _ hone
     | ext => simp [Ent.kind] at hk
     | box l => simp [Ent.kind] at hk
     | arr T nn c =>
       rcases h3 with ⟨nn',c',g1,_⟩|⟨g1,_⟩
       · rw [h0] at g1;injection g1 with g1;subst g1;simp [Ent.kind] at hk0
       · rw [h0] at g1;cases g1
 | @ad ν off e h hk =>
   cases hv with
   | @ad _ _ g n cp wd e0 h0 hk0 hl =>
     cases e with
     | dead => exact .add h rfl _ rfl
     | ext => simp [Ent.kind] at hk
     | box l => exact .ad h rfl (by rw [hmap ν e0 h0]; exact hl)
     | arr T nn c => simp [Ent.kind] at hk
   | @add _ _ e0 h0 hk0 v hone =>
     have h3:=hE ν e h
     cases e with
     | dead => exact .add h rfl _ hone
     | ext => simp [Ent.kind] at hk
     | arr T nn c => simp [Ent.kind] at hk
     | box l =>
       obtain ⟨l0,g1,_⟩:=h3
       rw [h0] at g1;injection g1 with g1;subst g1;simp [Ent.kind] at hk0
 | el wd f =>
   cases hv with
   | el hc hr hO hb => exact .el hc (fun j hj => mono (hr j hj)) (fun h => hO (own _ h)) hb
 | @fz ν T nn c c' h h' hr =>
   have e:=fh hv h
   subst e
   refine .c (hr _ _ _ (eq (H.ent ν _ h) (fun b hb hh=>⟨rfl,fun ho=>?_⟩) (Nat.le_refl _)))
   rcases hh with hh|hh
   · exact hh (own b ho)
   · obtain ⟨y,y1,y2⟩:=ho
     obtain ⟨g1,g2,_⟩:=eX hE y1 y2
     have hne : ν ≠ ρ y:=by
      intro e
      obtain ⟨e',z1,z2⟩:=y1
      rcases h' y e.symm with h'|h'
      · rw [h'] at z1;cases z1
      · rw [h'] at z1;injection z1 with z1;subst z1;exact z2 rfl
     exact H.sep ν (ρ y) b hne ⟨_,h,by simp [Ent.kind]⟩ g1 hh g2
 | @fzb ν l f h hc h' =>
   obtain ⟨g,n,cp,wd,hl,rfl⟩:=fW hv h
   obtain ⟨cur,T',h1,h2,h3⟩:=eu H h hl
   refine .el (vs:=fun i=>cur.getD i undef) (fun j hj=>?_) (fun j hj=>?_) (fun ho=>?_) (Array.getElem?_eq_some_iff.1 h1).1
   · refine eS h1 ?_
     rw [Nat.zero_add,Array.getD_eq_getD_getElem?]
     simp [show j < cur.size by omega]
   · obtain ⟨c,q1,q2⟩:=hc j hj
     have:=h3 j hj
     rw [q1] at this
     exact q2 _ _ _ (mono (cJ this))
   · obtain ⟨y,y1,y2⟩:=ho
     obtain ⟨g1,g2,_⟩:=eX hE y1 y2
     have hne : ν ≠ ρ y:=by
      intro e
      obtain ⟨e',z1,z2⟩:=y1
      rcases h' y e.symm with h'|h'
      · rw [h'] at z1;cases z1
      · rw [h'] at z1;injection z1 with z1;subst z1;exact z2 rfl
     exact H.sep ν (ρ y) g hne ⟨_,h,by simp [Ent.kind]⟩ g1 (by rw [hl];rfl) g2
 | @nul ν T nn c h h' =>
   have e:=fx hv
   subst e
   have : (fq φ hp ρ ν).val = .slice none 0 0:=by unfold fq;rw [h];rfl
   rw [← this]
   exact .sl h' rfl
 | agg hl _ ih =>
   obtain ⟨vs,rfl,h1,h2⟩:=eQ hv
   exact .agg (by omega) fun i hi=>ih i (by omega) (h2 i (by omega))
 | fn hl _ ih =>
   cases hv with
   | fn h1 h2 => exact .fn (by omega) fun i hi => ih i (by omega) (h2 i (by omega))
theorem rz {hB : Hp} {hp hp' : Hp} (ρ : Nat → Nat) (hρ : ∀ x y e e',hp' x = some e → hp' y = some e' → ρ x = ρ y → x = y) (h0 : ∀ ν e,hB ν = some e → ρ ν = ν ∧ ∃ e',hp' ν = some e' ∧ (e'.kind = 2 → e.kind ≠ 3)) (hfin : ir hp → ir hp') (hE : ∀ ν e',hp' ν = some e' → LeE hp hp' ρ ν e')
  {lo : Nat} {w0 w : World} {φ0 φ : Nat → Loc} (H : HC φ hp lo w0 w) {w1 : World} (EV : Evo φ0 hB w1 φ hp w) : HC (fq φ hp ρ) hp' lo w0 w ∧ Evo φ0 hB w1 (fq φ hp ρ) hp' w:=by
 have own : ∀ b,Own (fq φ hp ρ) hp' b → Own φ hp b:=fun b ⟨ν,h1,h2⟩=>let ⟨g1,g2,_⟩:=eX hE h1 h2;⟨ρ ν,g1,g2⟩
 have hmap : ∀ ν e,hp (ρ ν) = some e → fq φ hp ρ ν = φ (ρ ν):=fun ν e he=>by unfold fq;rw [he]
 refine ⟨⟨H.fr,H.l0,hfin H.fin,fun ν e he=>?_,fun ν ν' b hne h1 h2 h3 h4=>?_,fun ν b h1 h2=>?_⟩,⟨fun ν e he=>?_,fun b hb ho=>?_,EV.sz,EV.ex⟩⟩
 · have h3:=hE ν e he
   cases e with
   | dead => trivial
   | ext =>
     simp only [LeE] at h3
     rw [hmap ν _ h3]
     exact H.ent (ρ ν) _ h3
   | box l' =>
     obtain ⟨l,g1,g2,g3⟩:=h3
     rw [hmap ν _ g1]
     obtain ⟨g,n,cp,wd,cur,T,k1,k2,k3,k4⟩:=H.ent (ρ ν) _ g1
     exact ⟨g,n,cp,wd,cur,T,k1,k2,by omega,fun i hi=>pP H hE (g3 i (by omega)) (k4 i (by omega))⟩
   | arr T nn' c' =>
     rcases h3 with ⟨nn,c,g1,g2,rfl⟩|⟨g1,g2,g3,V,g4,g5⟩
     · rw [hmap ν _ g1]
       obtain ⟨V,hv,hnn,⟨k1,k2,k3⟩|⟨g,o,cp,cur,k1,k2,k3,k4,k5,kh,k6⟩⟩:=H.ent (ρ ν) _ g1
       · exact ⟨V,hv,hnn,.inl ⟨k1,k2,by cases hq : nn'.nn with|false=>rfl|true=>rw [g2.1 hq] at k3;cases k3⟩⟩
       · refine ⟨V,hv,hnn,.inr ⟨g,o,cp,cur,k1,k2,k3,k4,k5,(fun e=>kh (g2.2 e)),fun i hi j hj=>?_⟩⟩
         obtain ⟨v,m1,m2⟩:=k6 i hi j hj
         exact ⟨v,m1,m2.mono (fun b _ hb=>⟨rfl,fun h=>hb (own b h)⟩) (Nat.le_refl _)⟩
     · exact ⟨V,g4,g3,.inl ⟨by unfold fq;rw [g1],g5,g2⟩⟩
 · obtain ⟨g1,g2,_⟩:=eX hE h1 h3
   obtain ⟨g3,g4,_⟩:=eX hE h2 h4
   obtain ⟨e,q1,_⟩:=h1
   obtain ⟨e',q2,_⟩:=h2
   exact H.sep (ρ ν) (ρ ν') b (fun e=>hne (hρ _ _ _ _ q1 q2 e)) g1 g3 g2 g4
 · obtain ⟨_,g2,g3⟩:=eX hE h1.live h2
   exact H.lo (ρ ν) b (g3 h1) g2
 · obtain ⟨gr,e',g1,g2⟩:=h0 ν e he
   obtain ⟨e1,k1,k2⟩:=EV.nm ν e he
   refine ⟨e',g1,?_⟩
   have h3:=hE ν e' g1
   have fin : e'.kind = e1.kind → e'.kind ≠ 2 → e'.kind = e.kind ∧ fq φ hp ρ ν = φ0 ν:=fun q1 q2=>by
    rcases k2 with ⟨k2,_⟩|⟨k2,k3⟩
    · omega
    · exact ⟨by omega,by rw [hmap ν _ (by rw [gr];exact k1),gr];exact k3⟩
   cases e' with
   | dead => exact .inl ⟨rfl, g2 rfl⟩
   | ext =>
     simp only [LeE] at h3
     rw [gr,k1] at h3;injection h3 with h3;subst h3
     exact .inr (fin rfl (by simp [Ent.kind]))
   | box l' =>
     obtain ⟨l,m1,_⟩:=h3
     rw [gr,k1] at m1;injection m1 with m1;subst m1
     exact .inr (fin rfl (by simp [Ent.kind]))
   | arr T nn' c' =>
     rcases h3 with ⟨nn,c,m1,_⟩|⟨m1,_⟩
     · rw [gr,k1] at m1;injection m1 with m1;subst m1
       exact .inr (fin rfl (by simp [Ent.kind]))
     · rw [gr,k1] at m1;cases m1
 · obtain ⟨k1,k2⟩:=EV.bl b hb ho
   exact ⟨k1,fun h=>k2 (own b h)⟩
theorem pQ {hB : Hp} {tm tm' : Nat → AV} {hp hp' : Hp} (ρ : Nat → Nat) (hρ : ∀ x y,ρ x = ρ y → x = y) (h0 : ∀ ν e,hB ν = some e → ρ ν = ν ∧ ∃ e',hp' ν = some e' ∧ (e'.kind = 2 → e.kind ≠ 3)) (hfin : ir hp → ir hp') (hE : ∀ ν e',hp' ν = some e' → LeE hp hp' ρ ν e') (hV : ∀ t,LeV hp hp' ρ (tm t) (tm' t)) : Le hB tm hp tm' hp':=by
 intro lo w0 φ0 N a w hC
 obtain ⟨φ,H,EV,ht,hd⟩:=hC
 obtain ⟨h1,h2⟩:=rz ρ (fun x y _ _ _ _ e=>hρ x y e) h0 hfin hE H EV
 exact ⟨fq φ hp ρ,h1,h2,fun t=>pP H hE (hV t) (ht t),hd⟩
theorem c9 {hp : Hp} : ∀ {ν : List Nat} {nw : List Ent} {y : Nat},¬ y ∈ ν → bQ hp ν nw y = hp y:=by
 intro ν
 induction ν generalizing hp with
 | nil => intro nw y _; cases nw <;> rfl
 | cons x ν ih =>
   intro nw y h
   cases nw with
   | nil => rfl
   | cons e nw =>
     simp only [List.mem_cons,not_or] at h
     show bQ (upd hp x (some e)) ν nw y = _
     rw [ih h.2,cc h.1]
theorem dx {hp : Hp} : ∀ {ν : List Nat} {nw : List Ent} {i : Nat},ν.length = nw.length → ν.Nodup → i < ν.length → bQ hp ν nw (ν.getD i 0) = some (nw.getD i .dead):=by
 intro ν
 induction ν generalizing hp with
 | nil => intro nw i _ _ h; simp at h
 | cons x ν ih =>
   intro nw i hl hn hi
   cases nw with
   | nil => simp at hl
   | cons e nw =>
     obtain ⟨h1,h2⟩:=List.nodup_cons.1 hn
     show bQ (upd hp x (some e)) ν nw _ = _
     cases i with
     | zero =>
       simp only [List.getD_cons_zero]
       rw [c9 h1,bt]
     | succ i =>
       simp only [List.getD_cons_succ]
       exact ih (by simpa using hl) h2 (by simpa using hi)
theorem dy {ν : List Nat} {y : Nat} (h : y ∈ ν) : ν.idxOf y < ν.length ∧ ν.getD (ν.idxOf y) 0 = y:=by
 have h1:=List.idxOf_lt_length_iff.2 h
 exact ⟨h1,by rw [bI h1];exact List.getElem_idxOf h1⟩
theorem pR {ν : List Nat} (hn : ν.Nodup) {i : Nat} (hi : i < ν.length) : ν.idxOf (ν.getD i 0) = i:=by
 have hm : ν.getD i 0 ∈ ν:=by rw [bI hi];exact List.getElem_mem hi
 obtain ⟨h1,h2⟩:=dy hm
 rw [bI h1] at h2
 exact (List.getElem_inj (h₀:=h1) (h₁:=hi) hn).1 (h2.trans (bI hi))
inductive SubV (hp : Hp) (ns ν : List Nat) : AV → AV → Prop where
 | any (a : AV) : SubV hp ns ν a .any
 | rd {c c' : C} (h : ef c c') : SubV hp ns ν (.c c) (.c c')
 | k (v : Value) : SubV hp ns ν (.k v) (.k v)
 | sl (i : Nat) (hi : i < ns.length) : SubV hp ns ν (.sl (ns.getD i 0)) (.sl (ν.getD i 0))
 | fz {x : Nat} {T : TypeId} {nn : Fl} {c c' : C} (h : hp x = some (.arr T nn c)) (h' : ¬ x ∈ ns) (hr : ef (if nn.nn then .nn c else c) c') : SubV hp ns ν (.sl x) (.c c')
 | agg {l l' : List AV} (hl : l'.length = l.length) (h : ∀ i, i < l.length → SubV hp ns ν (l.getD i .any) (l'.getD i .any)) : SubV hp ns ν (.agg l) (.agg l')
 | tup {l l' : List AV} (hl : l'.length = l.length) (h : ∀ i, i < l.length → SubV hp ns ν (l.getD i .any) (l'.getD i .any)) : SubV hp ns ν (.tup l) (.tup l')
theorem mw {hp0 : Hp} {r : AV} {hp : Hp} {nw : List Ent} {val : List Nat → AV} (ns : List Nat) (hns : ns.Nodup) (hlen : ns.length = nw.length)
  (he : ∀ i,i < ns.length → ∃ T nn nn' c,hp (ns.getD i 0) = some (.arr T nn c) ∧ nw.getD i .dead = .arr T nn' c ∧ ((nn'.nn = true → nn.nn = true) ∧ (nn'.hd = true → nn.hd = true))) (hv : ∀ ν : List Nat,ν.length = ns.length → SubV hp ns ν r (val ν)) : sR hp0 r hp nw val:=by
 intro w0 φ0 φ w v hX H0 H EV hr ν hl hn hf
 show ∃ φ',HC φ' (bQ hp0 ν nw) w0.heap.size w0 w ∧ Evo φ0 hp0 w0 φ' (bQ hp0 ν nw) w ∧ AVC φ' (bQ hp0 ν nw) w (val ν) v
 have key : ∀ y,y ∈ ν → ∃ i,i < ns.length ∧ ν.idxOf y = i ∧ ν.getD i 0 = y:=fun y hy=>by
  obtain ⟨h1,h2⟩:=dy hy
  exact ⟨_,by omega,rfl,h2⟩
 let φ' : Nat → Loc:=fun y=>if y ∈ ν then φ (ns.getD (ν.idxOf y) 0) else φ0 y
 have f1 : ∀ i,i < ns.length → φ' (ν.getD i 0) = φ (ns.getD i 0):=fun i hi=>by
  have hm : ν.getD i 0 ∈ ν:=by rw [bI (by omega)];exact List.getElem_mem (by omega)
  show (if _ then _ else _) = _
  rw [if_pos hm,pR hn (by omega)]
 have f2 : ∀ y,¬ y ∈ ν → φ' y = φ0 y:=fun y hy=>if_neg hy
 have g1 : ∀ i,i < ns.length → bQ hp0 ν nw (ν.getD i 0) = some (nw.getD i .dead):=fun i hi=>dx (by omega) hn (by omega)
 have g2 : ∀ y,¬ y ∈ ν → bQ hp0 ν nw y = hp0 y:=fun y hy=>c9 hy
 have old : ∀ y e,hp0 y = some e → ¬ y ∈ ν:=fun y e hy hm=>by rw [hf y hm] at hy;cases hy
 have keep : ∀ y e,hp0 y = some e → ∃ e',hp y = some e' ∧ e'.kind = 3 ∧ φ y = φ0 y:=by
  intro y e hy
  have h3:=hX y e hy
  obtain ⟨e',k1,⟨_,k2⟩|⟨k2,k3⟩⟩:=EV.nm y e hy
  · exact absurd h3 k2
  · exact ⟨e',k1,by omega,k3⟩
 have src : ∀ y b,cf (bQ hp0 ν nw) y → (φ' y).blk = some b → ∃ x,cf hp x ∧ (φ x).blk = some b ∧ ((∃ i,i < ns.length ∧ y = ν.getD i 0 ∧ x = ns.getD i 0) ∨ (¬ y ∈ ν ∧ x = y ∧ ∃ e',hp y = some e' ∧ e'.kind = 3)):=by
  intro y b h1 h2
  by_cases hy : y ∈ ν
  · obtain ⟨i,hi,_,hq⟩:=key y hy
    subst hq
    rw [f1 i hi] at h2
    obtain ⟨T,nn,nn',c,k1,k2,_⟩:=he i hi
    exact ⟨_,⟨_,k1,by simp [Ent.kind]⟩,h2,.inl ⟨i,hi,rfl,rfl⟩⟩
  · rw [f2 y hy] at h2
    obtain ⟨e,k1,k2⟩:=h1
    rw [g2 y hy] at k1
    obtain ⟨e',m1,m2,m3⟩:=keep y e k1
    exact ⟨y,⟨e',m1,by omega⟩,by rw [m3];exact h2,.inr ⟨hy,rfl,e',m1,m2⟩⟩
 have own : ∀ b,Own φ' (bQ hp0 ν nw) b → Own φ hp b:=fun b ⟨y,h1,h2⟩=>let ⟨x,k1,k2,_⟩:=src y b h1 h2;⟨x,k1,k2⟩
 have mono : ∀ {c v},Rd (Own φ hp) w c v → Rd (Own φ' (bQ hp0 ν nw)) w c v:=fun h=>h.mono (fun b _ hb=>⟨rfl,fun h=>hb (own b h)⟩) (Nat.le_refl _)
 have inj : ∀ i j,i < ns.length → j < ns.length → i ≠ j → ns.getD i 0 ≠ ns.getD j 0:=fun i j hi hj hne e=>by
  rw [bI hi,bI hj] at e
  exact hne ((List.getElem_inj (h₀:=hi) (h₁:=hj) hns).1 e)
 refine ⟨φ',⟨H.fr,H.l0,?_,fun y e hy=>?_,fun y y' b hne h1 h2 h3 h4=>?_,fun y b h1 h2=>?_⟩,⟨fun y e hy=>?_,fun b hb ho=>?_,EV.sz,EV.ex⟩,?_⟩
 · rw [dL];exact eW H0.fin _
 · by_cases hm : y ∈ ν
   · obtain ⟨i,hi,_,hq⟩:=key y hm
     subst hq
     rw [g1 i hi] at hy
     injection hy with hy
     obtain ⟨T,nn,nn',c,k1,k2,k3⟩:=he i hi
     rw [k2] at hy;subst hy
     rw [f1 i hi]
     obtain ⟨V,hv,hnn,⟨m1,m2,m3⟩|⟨g,o,cp,cur,m1,m2,m3,m4,m5,mh,m6⟩⟩:=H.ent _ _ k1
     · exact ⟨V,hv,hnn,.inl ⟨m1,m2,by cases hq : nn'.nn with|false=>rfl|true=>rw [k3.1 hq] at m3;cases m3⟩⟩
     · refine ⟨V,hv,hnn,.inr ⟨g,o,cp,cur,m1,m2,m3,m4,m5,(fun e=>mh (k3.2 e)),fun i hi j hj=>?_⟩⟩
       obtain ⟨v,q1,q2⟩:=m6 i hi j hj
       exact ⟨v,q1,mono q2⟩
   · rw [g2 y hm] at hy
     rw [f2 y hm]
     have h3:=hX y e hy
     cases e with
     | ext => exact fun b hb => Nat.lt_of_lt_of_le (H0.ent y _ hy b hb) EV.sz
     | _ => simp [Ent.kind] at h3
 · obtain ⟨x,k1,k2,k3⟩:=src y b h1 h3
   obtain ⟨x',m1,m2,m3⟩:=src y' b h2 h4
   refine H.sep x x' b ?_ k1 m1 k2 m2
   rcases k3 with ⟨i,hi,e1,e2⟩|⟨e0,e1,e',e2,e3⟩ <;> rcases m3 with ⟨j,hj,e4,e5⟩|⟨e6,e4,e'',e5,e7⟩
   · subst e1 e2 e4 e5
     exact inj i j hi hj fun e=>hne (by rw [e])
   · subst e2 e4
     intro e
     obtain ⟨T,nn,nn',c,q1,_⟩:=he i hi
     rw [e,e5] at q1;injection q1 with q1;subst q1;simp [Ent.kind] at e7
   · subst e1 e5
     intro e
     obtain ⟨T,nn,nn',c,q1,_⟩:=he j hj
     rw [← e,e2] at q1;injection q1 with q1;subst q1;simp [Ent.kind] at e3
   · subst e1 e4;exact hne
 · by_cases hm : y ∈ ν
   · obtain ⟨i,hi,_,hq⟩:=key y hm
     subst hq
     rw [f1 i hi] at h2
     obtain ⟨T,nn,nn',c,k1,_⟩:=he i hi
     exact H.lo _ b ⟨_,k1,by simp [Ent.kind]⟩ h2
   · obtain ⟨e,k1,k2⟩:=h1
     rw [g2 y hm] at k1
     have:=hX y e k1
     omega
 · have hm:=old y e hy
   exact ⟨e,by rw [g2 y hm];exact hy,.inr ⟨rfl,f2 y hm⟩⟩
 · obtain ⟨k1,k2⟩:=EV.bl b hb ho
   exact ⟨k1,fun h=>k2 (own b h)⟩
 · have hs:=hv ν (by omega)
   clear hv
   revert hr
   generalize val ν = a' at hs
   intro hr
   induction hs generalizing v with
   | any => exact .any v
   | rd h => cases hr with | c hr => exact .c (h _ _ _ (mono hr))
   | k => cases hr; exact .k _
   | sl i hi =>
     obtain ⟨T,nn,nn',c,k1,k2,_⟩:=he i hi
     have e:=fh hr k1
     subst e
     rw [← f1 i hi]
     exact .sl (g1 i hi) (by rw [k2];rfl)
   | @fz x T nn c c' h h' hrd =>
     have e:=fh hr h
     subst e
     refine .c (hrd _ _ _ (eq (H.ent x _ h) (fun b hb hh=>⟨rfl,fun ho=>?_⟩) (Nat.le_refl _)))
     rcases hh with hh|hh
     · exact hh (own b ho)
     · obtain ⟨y,y1,y2⟩:=ho
       obtain ⟨x',m1,m2,m3⟩:=src y b y1 y2
       refine H.sep x x' b ?_ ⟨_,h,by simp [Ent.kind]⟩ m1 hh m2
       rcases m3 with ⟨j,hj,_,e5⟩|⟨_,e4,e'',e5,e7⟩
       · subst e5;intro e;exact h' (by rw [e,bI hj];exact List.getElem_mem hj)
       · subst e4;intro e;rw [← e,h] at e5;injection e5 with e5;subst e5;simp [Ent.kind] at e7
   | agg hl _ ih =>
     obtain ⟨vs,rfl,h1,h2⟩:=eQ hr
     exact .agg (by omega) fun i hi=>ih i (by omega) _ (h2 i (by omega))
   | tup hl _ ih =>
     obtain ⟨vs,rfl,h1,h2⟩:=nf hr
     exact .tup (by omega) fun i hi=>ih i (by omega) _ (h2 i (by omega))
end
end Go.Proofs.Ytlodllmpndflcaa
