/-
  Worths as results of laws: read, owned, compared, marked.
-/
import Derived.Test.YtiadchinhofieaaZqLaw
import Derived.Test.YtiadchinhofieaaZqCb
namespace Go.Proofs.Ytiadchinhofieaa
set_option linter.unusedVariables false
set_option linter.unusedSimpArgs false
open Go.RowKit Go.ChangeShapes Go.WideShapes Go.ChangeAt Go.Deep Go.Joins
attribute [local go_sem ↓] Go.wp_at_zero Go.wp_at_succ
structure Wo where
 head : Int
 over : List Int
 way : Int
def IsW (w : World) (v : Value) (x : Wo) : Prop:=∃ vo,v = .agg #[.int .i64 x.head,vo,.int .i64 x.way] ∧ IsI w vo x.over
def iH (lo hi : Nat) (w : World) (v : Value) (x : Wo) : Prop:=∃ vo,v = .agg #[.int .i64 x.head,vo,.int .i64 x.way] ∧ cO lo hi w vo x.over
theorem IsW.below {w w' : World} {v : Value} {x : Wo} (h : IsW w v x) (hb : Below w.heap.size w w') : IsW w' v x:=let ⟨a,e,h⟩:=h;⟨a,e,h.below hb⟩
theorem IsW.alloc {w : World} {v : Value} {a : Wo} (h : IsW w v a) (o : Obj) : IsW (w.alloc o) v a:=h.below (cA w o)
theorem IsW.drew {w : World} {v : Value} {a : Wo} (h : IsW w v a) : IsW w.drew v a:=h.below (c8 w)
theorem iH.is {lo hi : Nat} {w : World} {v : Value} {x : Wo} (h : iH lo hi w v x) : IsW w v x:=let ⟨a,e,h⟩:=h;⟨a,e,h.is⟩
theorem iH.below {lo hi : Nat} {w w' : World} {v : Value} {x : Wo} (h : iH lo hi w v x) (hb : Below w.heap.size w w') : iH lo hi w' v x:=let ⟨a,e,h⟩:=h;⟨a,e,h.below hb⟩
theorem iH.out {lo hi lo' hi' : Nat} {w w' : World} {v : Value} {x : Wo} (h : iH lo' hi' w v x) (hO : Outside lo hi w w') (hd : hi' ≤ lo ∨ hi ≤ lo') : iH lo' hi' w' v x:=let ⟨a,e,h⟩:=h;⟨a,e,h.out hO hd⟩
theorem IsW.form {w : World} {v : Value} {x : Wo} (h : IsW w v x) : ∃ v0 s1 n1 c1 v2,v = .agg #[.int .i64 v0,.slice s1 n1 c1,.int .i64 v2]:=by
 obtain ⟨_,rfl,⟨s,n,c,rfl,_⟩⟩:=h
 exact ⟨_,_,_,_,_,rfl⟩
theorem IsW.parts {w : World} {a b : Int} {s : Option Addr} {n c : Nat} {x : Wo} (h : IsW w (.agg #[.int .i64 a,.slice s n c,.int .i64 b]) x) : a = x.head ∧ dO w s n c x.over ∧ b = x.way:=by
 obtain ⟨_,e,h⟩:=h
 simp only [Value.agg.injEq,Array.mk.injEq,List.cons.injEq,Value.int.injEq,true_and,and_true] at e
 obtain ⟨rfl,rfl,rfl⟩:=e
 exact ⟨rfl,h.ints,rfl⟩
theorem iH.parts {lo hi : Nat} {w : World} {a b : Int} {s : Option Addr} {n c : Nat} {x : Wo} (h : iH lo hi w (.agg #[.int .i64 a,.slice s n c,.int .i64 b]) x) : a = x.head ∧ cO lo hi w (.slice s n c) x.over ∧ b = x.way:=by
 obtain ⟨_,e,h⟩:=h
 simp only [Value.agg.injEq,Array.mk.injEq,List.cons.injEq,Value.int.injEq,true_and,and_true] at e
 obtain ⟨rfl,rfl,rfl⟩:=e
 exact ⟨rfl,h,rfl⟩
def szW (x : Wo) : Nat:=x.over.length
def qO (x : Wo) : Nat:=x.over.length
def mkW (x : Wo) (k : Int) : Wo:=⟨x.head,mkI x.over.length k,x.way⟩
def qP (w : World) (x : Wo) (b : Bool) (e : Ending) (w' : World) : Prop:=∃ v0 s1 n1 c1 v2,e = .returned (.tuple #[.agg #[.int .i64 v0,.slice s1 n1 c1,.int .i64 v2],.bool b]) ∧ iH w.heap.size w'.heap.size w' (.agg #[.int .i64 v0,.slice s1 n1 c1,.int .i64 v2]) x ∧ Below w.heap.size w w'
theorem yL {a b : Wo} (h1 : a.head = b.head) (h2 : a.over = b.over) (h3 : a.way = b.way) : a = b:=by cases a;cases b;simp_all
set_option maxHeartbeats 1000000 in
theorem nb (v u : Value) (a b : Wo) (w : World) (hA : IsW w v a) (hB : IsW w u b) : Calls Try.prog 35 #[v,u] w (Bb w (tf (a = b))):=by
 obtain ⟨p0,s1,n1,c1,p1,rfl⟩:=hA.form
 obtain ⟨r0,s2,n2,c2,r1,rfl⟩:=hB.form
 obtain ⟨e1,h1,e2⟩:=hA.parts
 obtain ⟨e3,h2,e4⟩:=hB.parts
 clear hA hB
 by_cases x1 : p0 = r0
 · have d1 : (p0 != r0) = false:=by simp [x1]
   by_cases x2 : a.over = b.over
   · have k2:=Lib.hid (aP x2)
     by_cases x3 : p1 = r1
     · have d3 : (p1 != r1) = false:=by simp [x3]
       rw [aP (yL (by omega) x2 (by omega))]
       clear e1 e2 e3 e4 x1 x2 x3
       go_enter Try.func35,Try.ntmps35
       go_wp2_with (go_at_call 36;refine (ec _ _ _ _ _ _ _ _ _ (h1.below (by repeat' (first|(with_reducible exact Below.refl _ _)|(with_reducible apply Below.alloc)|(with_reducible apply Below.drew)|(with_reducible apply bp)|omega|(simp only [World.size_alloc,World.size_setCell,World.size_drew];omega)))) (h2.below (by repeat' (first|(with_reducible exact Below.refl _ _)|(with_reducible apply Below.alloc)|(with_reducible apply Below.drew)|(with_reducible apply bp)|omega|(simp only [World.size_alloc,World.size_setCell,World.size_drew];omega))))).mono ?_;rw [k2.out];rintro e w2 ⟨rfl,m2,rfl⟩)
       go_ret
       exact ⟨rfl,(by repeat' (first|(with_reducible exact Below.refl _ _)|(with_reducible apply Below.alloc)|(with_reducible apply Below.drew)|(with_reducible apply bp)|omega|(simp only [World.size_alloc,World.size_setCell,World.size_drew];omega)))⟩
     · have d3 : (p1 != r1) = true:=by simp [x3]
       rw [aC (fun e=>x3 (by rw [e2,e4,e]))]
       clear e1 e2 e3 e4 x1 x2 x3
       go_enter Try.func35,Try.ntmps35
       go_wp2_with (go_at_call 36;refine (ec _ _ _ _ _ _ _ _ _ (h1.below (by repeat' (first|(with_reducible exact Below.refl _ _)|(with_reducible apply Below.alloc)|(with_reducible apply Below.drew)|(with_reducible apply bp)|omega|(simp only [World.size_alloc,World.size_setCell,World.size_drew];omega)))) (h2.below (by repeat' (first|(with_reducible exact Below.refl _ _)|(with_reducible apply Below.alloc)|(with_reducible apply Below.drew)|(with_reducible apply bp)|omega|(simp only [World.size_alloc,World.size_setCell,World.size_drew];omega))))).mono ?_;rw [k2.out];rintro e w2 ⟨rfl,m2,rfl⟩)
       go_ret
       exact ⟨rfl,(by repeat' (first|(with_reducible exact Below.refl _ _)|(with_reducible apply Below.alloc)|(with_reducible apply Below.drew)|(with_reducible apply bp)|omega|(simp only [World.size_alloc,World.size_setCell,World.size_drew];omega)))⟩
   · have k2:=Lib.hid (aC x2)
     rw [aC (fun e=>x2 (by rw [e]))]
     clear e1 e2 e3 e4 x1 x2
     go_enter Try.func35,Try.ntmps35
     go_wp2_with (go_at_call 36;refine (ec _ _ _ _ _ _ _ _ _ (h1.below (by repeat' (first|(with_reducible exact Below.refl _ _)|(with_reducible apply Below.alloc)|(with_reducible apply Below.drew)|(with_reducible apply bp)|omega|(simp only [World.size_alloc,World.size_setCell,World.size_drew];omega)))) (h2.below (by repeat' (first|(with_reducible exact Below.refl _ _)|(with_reducible apply Below.alloc)|(with_reducible apply Below.drew)|(with_reducible apply bp)|omega|(simp only [World.size_alloc,World.size_setCell,World.size_drew];omega))))).mono ?_;rw [k2.out];rintro e w2 ⟨rfl,m2,rfl⟩)
     go_ret
     exact ⟨rfl,(by repeat' (first|(with_reducible exact Below.refl _ _)|(with_reducible apply Below.alloc)|(with_reducible apply Below.drew)|(with_reducible apply bp)|omega|(simp only [World.size_alloc,World.size_setCell,World.size_drew];omega)))⟩
 · have d1 : (p0 != r0) = true:=by simp [x1]
   rw [aC (fun e=>x1 (by rw [e1,e3,e]))]
   clear e1 e2 e3 e4 x1
   go_enter Try.func35,Try.ntmps35
   go_wp2_with fail
   go_ret
   exact ⟨rfl,(by repeat' (first|(with_reducible exact Below.refl _ _)|(with_reducible apply Below.alloc)|(with_reducible apply Below.drew)|(with_reducible apply bp)|omega|(simp only [World.size_alloc,World.size_setCell,World.size_drew];omega)))⟩
set_option maxHeartbeats 800000 in
theorem rR {lo hi : Nat} {w : World} {v0 v2 : Int} {s1 : Option Addr} {n1 c1 : Nat} {x : Wo} (h : iH lo hi w (.agg #[.int .i64 v0,.slice s1 n1 c1,.int .i64 v2]) x) (k : Int) (h0 : 0 ≤ k) (hk : k ≤ 576460752303423488) (hs : szW x ≤ 1048576) (hhi : hi ≤ w.heap.size) :
  Calls Try.prog 38 #[.agg #[.int .i64 v0,.slice s1 n1 c1,.int .i64 v2],.int .i64 k] w fun e w'=>e = .returned (.int .i64 (k + qO x)) ∧ iH lo hi w' (.agg #[.int .i64 v0,.slice s1 n1 c1,.int .i64 v2]) (mkW x k) ∧ Outside lo hi w w':=by
 obtain ⟨e1,h1,e2⟩:=h.parts
 have hl1:=h1.len
 have e3 : n1 ≤ 1048576:=by unfold szW at hs;omega
 have L1:=Lib.hid hl1
 have E1:=Lib.hid e1
 have E2:=Lib.hid e2
 have B1:=Lib.hid h1.blks
 clear hl1 hs h e1 e2
 go_enter Try.func38,Try.ntmps38
 go_wp2_with fail
 refine (f9 (cK.alloc h1 _) k h0 (by omega) e3).mono ?_
 rintro e w2 ⟨rfl,hm1,hg1⟩
 have t1 : Touch (fun g=>blk (.slice s1 n1 c1) = some g) _ w2:=dR hg1
 go_wp2_with fail
 go_ret
 refine ⟨dw (by unfold qO;rw [L1.out]),⟨_,by rw [E1.out,E2.out];rfl,?_⟩,?_⟩
 · unfold mkW;rw [L1.out];exact hm1
 · exact ((gS (B:=fun _=>False) (cA _ _)).outside (fun _ h=>h.elim)).trans (t1.outside fun g hg=>B1.out g hg)
set_option maxHeartbeats 800000 in
theorem l9 {w : World} {v0 v2 : Int} {s1 : Option Addr} {n1 c1 : Nat} (x : Wo) (k : Int) (h : IsW w (.agg #[.int .i64 v0,.slice s1 n1 c1,.int .i64 v2]) (mkW x k)) (h0 : 0 ≤ k) (hk : k ≤ 576460752303423488) (hs : szW x ≤ 1048576) :
  Calls Try.prog 39 #[.agg #[.int .i64 v0,.slice s1 n1 c1,.int .i64 v2],.int .i64 k] w (Bi w (k + qO x)):=by
 obtain ⟨_,h1,_⟩:=h.parts
 have hl1 : x.over.length = n1:=by have:=h1.1;unfold mkW at this;simpa [ui] using this
 have e1 : n1 ≤ 1048576:=by unfold szW at hs;omega
 have h1' : IsI w (.slice s1 n1 c1) (mkI n1 k):=by have:=h1.is;unfold mkW at this;rwa [hl1] at this
 have L1:=Lib.hid hl1
 clear hl1 hs h h1
 go_enter Try.func39,Try.ntmps39
 go_wp2_with (go_at_call 47;refine (qU _ (h1'.alloc _) h0 (by omega) e1).mono ?_;rintro e w2 ⟨rfl,rfl⟩)
 all_goals first
  | (exfalso; omega)
  | (go_ret
     exact ⟨dw (by unfold qO;rw [L1.out]),cA _ _⟩)
end Go.Proofs.Ytiadchinhofieaa
