/-
  Stage: read, owned; copies, comparison, marks; the argument opened.
-/
import Derived.Test.YtdkkhhfhdijfmaaZsLaw
import Derived.Test.YtdkkhhfhdijfmaaZsCb
namespace Go.Proofs.Ytdkkhhfhdijfmaa
set_option linter.unusedVariables false
set_option linter.unusedSimpArgs false
open Go.RowKit Go.ChangeShapes Go.WideShapes Go.ChangeAt Go.Deep Go.Joins
attribute [local go_sem ↓] Go.wp_at_zero Go.wp_at_succ
structure St where
 won : List Int
 region : List Int
 at_ : Int
def IsS (w : World) (v : Value) (x : St) : Prop:=∃ va vb,v = .agg #[va,vb,.int .i64 x.at_] ∧ IsI w va x.won ∧ IsI w vb x.region
def eq (lo hi : Nat) (w : World) (v : Value) (x : St) : Prop:=∃ va vb,v = .agg #[va,vb,.int .i64 x.at_] ∧ aO lo hi w va x.won ∧ aO lo hi w vb x.region ∧ ∀ g,blk va = some g → blk vb ≠ some g
theorem IsS.below {w w' : World} {v : Value} {x : St} (h : IsS w v x) (hb : Below w.heap.size w w') : IsS w' v x:=let ⟨a,b,e,h1,h2⟩:=h;⟨a,b,e,h1.below hb,h2.below hb⟩
theorem IsS.alloc {w : World} {v : Value} {a : St} (h : IsS w v a) (o : Obj) : IsS (w.alloc o) v a:=h.below (aP w o)
theorem IsS.drew {w : World} {v : Value} {a : St} (h : IsS w v a) : IsS w.drew v a:=h.below (bU w)
theorem eq.is {lo hi : Nat} {w : World} {v : Value} {x : St} (h : eq lo hi w v x) : IsS w v x:=let ⟨a,b,e,h1,h2,_⟩:=h;⟨a,b,e,h1.is,h2.is⟩
theorem eq.below {lo hi : Nat} {w w' : World} {v : Value} {x : St} (h : eq lo hi w v x) (hb : Below w.heap.size w w') : eq lo hi w' v x:=let ⟨a,b,e,h1,h2,h3⟩:=h;⟨a,b,e,h1.below hb,h2.below hb,h3⟩
theorem eq.kept {lo hi : Nat} {w w' : World} {v : Value} {x : St} (h : eq lo hi w v x) (hk : bO lo hi w w') : eq lo hi w' v x:=let ⟨a,b,e,h1,h2,h3⟩:=h;⟨a,b,e,h1.kept hk,h2.kept hk,h3⟩
theorem eq.mono {lo hi lo' hi' : Nat} {w : World} {v : Value} {x : St} (h : eq lo hi w v x) (hl : lo' ≤ lo) (hh : hi ≤ hi') : eq lo' hi' w v x:=let ⟨a,b,e,h1,h2,h3⟩:=h;⟨a,b,e,h1.mono hl hh,h2.mono hl hh,h3⟩
theorem eq.top {lo hi : Nat} {w : World} {v : Value} {x : St} (h : eq lo hi w v x) : eq lo w.heap.size w v x:=let ⟨a,b,e,h1,h2,h3⟩:=h;⟨a,b,e,h1.top,h2.top,h3⟩
theorem eq.final {lo hi lo' : Nat} {w W : World} {v : Value} {x : St} (h : eq lo hi w v x) (hk : bO lo hi w W) (hl : lo' ≤ lo) : eq lo' W.heap.size W v x:=(h.kept hk).top.mono hl (Nat.le_refl _)
theorem eq.out {lo hi lo' hi' : Nat} {w w' : World} {v : Value} {x : St} (h : eq lo' hi' w v x) (hO : Outside lo hi w w') (hd : hi' ≤ lo ∨ hi ≤ lo') : eq lo' hi' w' v x:=h.kept (hO.kept hd)
theorem IsS.form {w : World} {v : Value} {x : St} (h : IsS w v x) : ∃ s0 n0 c0 s1 n1 c1 v2,v = .agg #[.slice s0 n0 c0,.slice s1 n1 c1,.int .i64 v2]:=by
 obtain ⟨_,_,rfl,⟨_,_,_,rfl,_⟩,⟨_,_,_,rfl,_⟩⟩:=h
 exact ⟨_,_,_,_,_,_,_,rfl⟩
theorem IsS.parts {w : World} {s0 : Option Addr} {n0 c0 : Nat} {s1 : Option Addr} {n1 c1 : Nat} {v2 : Int} {x : St} (h : IsS w (.agg #[.slice s0 n0 c0,.slice s1 n1 c1,.int .i64 v2]) x) : cS w s0 n0 c0 x.won ∧ cS w s1 n1 c1 x.region ∧ v2 = x.at_:=by
 obtain ⟨_,_,e,h1,h2⟩:=h
 simp only [Value.agg.injEq,Array.mk.injEq,List.cons.injEq,Value.int.injEq,true_and,and_true] at e
 obtain ⟨rfl,rfl,rfl⟩:=e
 exact ⟨h1.ints,h2.ints,rfl⟩
theorem eq.parts {lo hi : Nat} {w : World} {s0 : Option Addr} {n0 c0 : Nat} {s1 : Option Addr} {n1 c1 : Nat} {v2 : Int} {x : St} (h : eq lo hi w (.agg #[.slice s0 n0 c0,.slice s1 n1 c1,.int .i64 v2]) x) : aO lo hi w (.slice s0 n0 c0) x.won ∧ aO lo hi w (.slice s1 n1 c1) x.region ∧ (∀ g,blk (.slice s0 n0 c0) = some g → blk (.slice s1 n1 c1) ≠ some g) ∧ v2 = x.at_:=by
 obtain ⟨_,_,e,h1,h2,h3⟩:=h
 simp only [Value.agg.injEq,Array.mk.injEq,List.cons.injEq,Value.int.injEq,true_and,and_true] at e
 obtain ⟨rfl,rfl,rfl⟩:=e
 exact ⟨h1,h2,h3,rfl⟩
theorem vX {a b : St} (h1 : a.won = b.won) (h2 : a.region = b.region) (h3 : a.at_ = b.at_) : a = b:=by cases a;cases b;simp_all
set_option maxHeartbeats 1000000 in
theorem rx (v u : Value) (a b : St) (w : World) (hA : IsS w v a) (hB : IsS w u b) : Calls Try.prog 29 #[v,u] w (Bb w (tf (a = b))):=by
 obtain ⟨s0,n0,c0,s1,n1,c1,v2,rfl⟩:=hA.form
 obtain ⟨t0,m0,d0,t1,m1,d1,u2,rfl⟩:=hB.form
 obtain ⟨h1,h2,e1⟩:=hA.parts
 obtain ⟨h3,h4,e2⟩:=hB.parts
 clear hA hB
 by_cases x1 : a.won = b.won
 · have k1:=Lib.hid (bg x1)
   by_cases x2 : a.region = b.region
   · have k2:=Lib.hid (bg x2)
     by_cases x3 : v2 = u2
     · have d3 : (v2 != u2) = false:=by simp [x3]
       rw [bg (vX x1 x2 (by omega))]
       clear e1 e2 x1 x2 x3
       go_enter Try.func29,Try.ntmps29
       go_wp2_with fail
       refine (cM _ _ _ _ _ _ _ _ _ (h1.below (by repeat' (first|(with_reducible exact Below.refl _ _)|(with_reducible apply Below.alloc)|(with_reducible apply Below.drew)|(with_reducible apply ak)|omega|(simp only [World.size_alloc,World.size_setCell,World.size_drew];omega)))) (h3.below (by repeat' (first|(with_reducible exact Below.refl _ _)|(with_reducible apply Below.alloc)|(with_reducible apply Below.drew)|(with_reducible apply ak)|omega|(simp only [World.size_alloc,World.size_setCell,World.size_drew];omega))))).mono ?_
       rw [k1.out]
       rintro e w2 ⟨rfl,m2,rfl⟩
       go_wp2_with fail
       refine (cM _ _ _ _ _ _ _ _ _ (h2.below (by repeat' (first|(with_reducible exact Below.refl _ _)|(with_reducible apply Below.alloc)|(with_reducible apply Below.drew)|(with_reducible apply ak)|omega|(simp only [World.size_alloc,World.size_setCell,World.size_drew];omega)))) (h4.below (by repeat' (first|(with_reducible exact Below.refl _ _)|(with_reducible apply Below.alloc)|(with_reducible apply Below.drew)|(with_reducible apply ak)|omega|(simp only [World.size_alloc,World.size_setCell,World.size_drew];omega))))).mono ?_
       rw [k2.out]
       rintro e w3 ⟨rfl,m3,rfl⟩
       go_wp2_with fail
       go_ret
       exact ⟨rfl,(by repeat' (first|(with_reducible exact Below.refl _ _)|(with_reducible apply Below.alloc)|(with_reducible apply Below.drew)|(with_reducible apply ak)|omega|(simp only [World.size_alloc,World.size_setCell,World.size_drew];omega)))⟩
     · have d3 : (v2 != u2) = true:=by simp [x3]
       rw [aB (fun e=>x3 (by rw [e1,e2,e]))]
       clear e1 e2 x1 x2 x3
       go_enter Try.func29,Try.ntmps29
       go_wp2_with fail
       refine (cM _ _ _ _ _ _ _ _ _ (h1.below (by repeat' (first|(with_reducible exact Below.refl _ _)|(with_reducible apply Below.alloc)|(with_reducible apply Below.drew)|(with_reducible apply ak)|omega|(simp only [World.size_alloc,World.size_setCell,World.size_drew];omega)))) (h3.below (by repeat' (first|(with_reducible exact Below.refl _ _)|(with_reducible apply Below.alloc)|(with_reducible apply Below.drew)|(with_reducible apply ak)|omega|(simp only [World.size_alloc,World.size_setCell,World.size_drew];omega))))).mono ?_
       rw [k1.out]
       rintro e w2 ⟨rfl,m2,rfl⟩
       go_wp2_with fail
       refine (cM _ _ _ _ _ _ _ _ _ (h2.below (by repeat' (first|(with_reducible exact Below.refl _ _)|(with_reducible apply Below.alloc)|(with_reducible apply Below.drew)|(with_reducible apply ak)|omega|(simp only [World.size_alloc,World.size_setCell,World.size_drew];omega)))) (h4.below (by repeat' (first|(with_reducible exact Below.refl _ _)|(with_reducible apply Below.alloc)|(with_reducible apply Below.drew)|(with_reducible apply ak)|omega|(simp only [World.size_alloc,World.size_setCell,World.size_drew];omega))))).mono ?_
       rw [k2.out]
       rintro e w3 ⟨rfl,m3,rfl⟩
       go_wp2_with fail
       go_ret
       exact ⟨rfl,(by repeat' (first|(with_reducible exact Below.refl _ _)|(with_reducible apply Below.alloc)|(with_reducible apply Below.drew)|(with_reducible apply ak)|omega|(simp only [World.size_alloc,World.size_setCell,World.size_drew];omega)))⟩
   · have k2:=Lib.hid (aB x2)
     rw [aB (fun e=>x2 (by rw [e]))]
     clear e1 e2 x1 x2
     go_enter Try.func29,Try.ntmps29
     go_wp2_with fail
     refine (cM _ _ _ _ _ _ _ _ _ (h1.below (by repeat' (first|(with_reducible exact Below.refl _ _)|(with_reducible apply Below.alloc)|(with_reducible apply Below.drew)|(with_reducible apply ak)|omega|(simp only [World.size_alloc,World.size_setCell,World.size_drew];omega)))) (h3.below (by repeat' (first|(with_reducible exact Below.refl _ _)|(with_reducible apply Below.alloc)|(with_reducible apply Below.drew)|(with_reducible apply ak)|omega|(simp only [World.size_alloc,World.size_setCell,World.size_drew];omega))))).mono ?_
     rw [k1.out]
     rintro e w2 ⟨rfl,m2,rfl⟩
     go_wp2_with fail
     refine (cM _ _ _ _ _ _ _ _ _ (h2.below (by repeat' (first|(with_reducible exact Below.refl _ _)|(with_reducible apply Below.alloc)|(with_reducible apply Below.drew)|(with_reducible apply ak)|omega|(simp only [World.size_alloc,World.size_setCell,World.size_drew];omega)))) (h4.below (by repeat' (first|(with_reducible exact Below.refl _ _)|(with_reducible apply Below.alloc)|(with_reducible apply Below.drew)|(with_reducible apply ak)|omega|(simp only [World.size_alloc,World.size_setCell,World.size_drew];omega))))).mono ?_
     rw [k2.out]
     rintro e w3 ⟨rfl,m3,rfl⟩
     go_wp2_with fail
     go_ret
     exact ⟨rfl,(by repeat' (first|(with_reducible exact Below.refl _ _)|(with_reducible apply Below.alloc)|(with_reducible apply Below.drew)|(with_reducible apply ak)|omega|(simp only [World.size_alloc,World.size_setCell,World.size_drew];omega)))⟩
 · have k1:=Lib.hid (aB x1)
   rw [aB (fun e=>x1 (by rw [e]))]
   clear e1 e2 x1
   go_enter Try.func29,Try.ntmps29
   go_wp2_with fail
   refine (cM _ _ _ _ _ _ _ _ _ (h1.below (by repeat' (first|(with_reducible exact Below.refl _ _)|(with_reducible apply Below.alloc)|(with_reducible apply Below.drew)|(with_reducible apply ak)|omega|(simp only [World.size_alloc,World.size_setCell,World.size_drew];omega)))) (h3.below (by repeat' (first|(with_reducible exact Below.refl _ _)|(with_reducible apply Below.alloc)|(with_reducible apply Below.drew)|(with_reducible apply ak)|omega|(simp only [World.size_alloc,World.size_setCell,World.size_drew];omega))))).mono ?_
   rw [k1.out]
   rintro e w2 ⟨rfl,m2,rfl⟩
   go_wp2_with fail
   go_ret
   exact ⟨rfl,(by repeat' (first|(with_reducible exact Below.refl _ _)|(with_reducible apply Below.alloc)|(with_reducible apply Below.drew)|(with_reducible apply ak)|omega|(simp only [World.size_alloc,World.size_setCell,World.size_drew];omega)))⟩
end Go.Proofs.Ytdkkhhfhdijfmaa
