/-
  Stage: read, owned; copies, comparison, marks; the argument opened.
-/
import Derived.Test.YtdkkhhfhdijfmaaZpLaw
import Derived.Test.YtdkkhhfhdijfmaaZpCb
namespace Go.Proofs.Ytdkkhhfhdijfmaa
set_option linter.unusedVariables false
set_option linter.unusedSimpArgs false
open Go.RowKit Go.ChangeShapes Go.WideShapes Go.ChangeAt Go.Deep Go.Joins
attribute [local go_sem ↓] Go.wp_at_zero Go.wp_at_succ
structure St where
 won : List Int
 region : List Int
 at_ : Int
def IsS (w : World) (v : Value) (x : St) : Prop:=∃ va vb,v = .agg #[va,vb,.int .i64 x.at_] ∧ IsI w va x.won ∧ IsI w vb x.region
def eg (lo hi : Nat) (w : World) (v : Value) (x : St) : Prop:=∃ va vb,v = .agg #[va,vb,.int .i64 x.at_] ∧ bd lo hi w va x.won ∧ bd lo hi w vb x.region ∧ ∀ g,blk va = some g → blk vb ≠ some g
theorem IsS.below {w w' : World} {v : Value} {x : St} (h : IsS w v x) (hb : Below w.heap.size w w') : IsS w' v x:=let ⟨a,b,e,h1,h2⟩:=h;⟨a,b,e,h1.below hb,h2.below hb⟩
theorem IsS.alloc {w : World} {v : Value} {a : St} (h : IsS w v a) (o : Obj) : IsS (w.alloc o) v a:=h.below (aO w o)
theorem IsS.drew {w : World} {v : Value} {a : St} (h : IsS w v a) : IsS w.drew v a:=h.below (b9 w)
theorem eg.is {lo hi : Nat} {w : World} {v : Value} {x : St} (h : eg lo hi w v x) : IsS w v x:=let ⟨a,b,e,h1,h2,_⟩:=h;⟨a,b,e,h1.is,h2.is⟩
theorem eg.below {lo hi : Nat} {w w' : World} {v : Value} {x : St} (h : eg lo hi w v x) (hb : Below w.heap.size w w') : eg lo hi w' v x:=let ⟨a,b,e,h1,h2,h3⟩:=h;⟨a,b,e,h1.below hb,h2.below hb,h3⟩
theorem eg.kept {lo hi : Nat} {w w' : World} {v : Value} {x : St} (h : eg lo hi w v x) (hk : bN lo hi w w') : eg lo hi w' v x:=let ⟨a,b,e,h1,h2,h3⟩:=h;⟨a,b,e,h1.kept hk,h2.kept hk,h3⟩
theorem eg.mono {lo hi lo' hi' : Nat} {w : World} {v : Value} {x : St} (h : eg lo hi w v x) (hl : lo' ≤ lo) (hh : hi ≤ hi') : eg lo' hi' w v x:=let ⟨a,b,e,h1,h2,h3⟩:=h;⟨a,b,e,h1.mono hl hh,h2.mono hl hh,h3⟩
theorem eg.top {lo hi : Nat} {w : World} {v : Value} {x : St} (h : eg lo hi w v x) : eg lo w.heap.size w v x:=let ⟨a,b,e,h1,h2,h3⟩:=h;⟨a,b,e,h1.top,h2.top,h3⟩
theorem eg.final {lo hi lo' : Nat} {w W : World} {v : Value} {x : St} (h : eg lo hi w v x) (hk : bN lo hi w W) (hl : lo' ≤ lo) : eg lo' W.heap.size W v x:=(h.kept hk).top.mono hl (Nat.le_refl _)
theorem eg.out {lo hi lo' hi' : Nat} {w w' : World} {v : Value} {x : St} (h : eg lo' hi' w v x) (hO : Outside lo hi w w') (hd : hi' ≤ lo ∨ hi ≤ lo') : eg lo' hi' w' v x:=h.kept (hO.kept hd)
theorem IsS.form {w : World} {v : Value} {x : St} (h : IsS w v x) : ∃ s0 n0 c0 s1 n1 c1 v2,v = .agg #[.slice s0 n0 c0,.slice s1 n1 c1,.int .i64 v2]:=by
 obtain ⟨_,_,rfl,⟨_,_,_,rfl,_⟩,⟨_,_,_,rfl,_⟩⟩:=h
 exact ⟨_,_,_,_,_,_,_,rfl⟩
theorem IsS.parts {w : World} {s0 : Option Addr} {n0 c0 : Nat} {s1 : Option Addr} {n1 c1 : Nat} {v2 : Int} {x : St} (h : IsS w (.agg #[.slice s0 n0 c0,.slice s1 n1 c1,.int .i64 v2]) x) : c7 w s0 n0 c0 x.won ∧ c7 w s1 n1 c1 x.region ∧ v2 = x.at_:=by
 obtain ⟨_,_,e,h1,h2⟩:=h
 simp only [Value.agg.injEq,Array.mk.injEq,List.cons.injEq,Value.int.injEq,true_and,and_true] at e
 obtain ⟨rfl,rfl,rfl⟩:=e
 exact ⟨h1.ints,h2.ints,rfl⟩
theorem eg.parts {lo hi : Nat} {w : World} {s0 : Option Addr} {n0 c0 : Nat} {s1 : Option Addr} {n1 c1 : Nat} {v2 : Int} {x : St} (h : eg lo hi w (.agg #[.slice s0 n0 c0,.slice s1 n1 c1,.int .i64 v2]) x) : bd lo hi w (.slice s0 n0 c0) x.won ∧ bd lo hi w (.slice s1 n1 c1) x.region ∧ (∀ g,blk (.slice s0 n0 c0) = some g → blk (.slice s1 n1 c1) ≠ some g) ∧ v2 = x.at_:=by
 obtain ⟨_,_,e,h1,h2,h3⟩:=h
 simp only [Value.agg.injEq,Array.mk.injEq,List.cons.injEq,Value.int.injEq,true_and,and_true] at e
 obtain ⟨rfl,rfl,rfl⟩:=e
 exact ⟨h1,h2,h3,rfl⟩
end Go.Proofs.Ytdkkhhfhdijfmaa
