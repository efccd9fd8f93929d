/-
  Queries, the program: lists of vertices as sets, and a query's key.
-/
import Derived.Test.YthjamlponejffaaZrNA
import Derived.Test.YthjamlponejffaaZrAt4
import Derived.Test.YthjamlponejffaaZrBs
namespace Go.Proofs.Ythjamlponejffaa
set_option linter.unusedVariables false
set_option linter.unusedSimpArgs false
open Go.RowKit
theorem mI (p : Nat → Prop) : ∀ k,(lst p k).Pairwise (· < ·)
 | 0 => by simp [lst]
 | k + 1 => by
   by_cases h : p k
   · rw [cF h,List.pairwise_append]
     refine ⟨mI p k,by simp,fun x hx y hy=>?_⟩
     obtain ⟨v,h1,_,rfl⟩:=c8.1 hx
     simp at hy
     omega
   · rw [cT h];exact mI p k
theorem pV (p : Nat → Prop) : ∀ k : Nat,b7 (lst p k) k:=by
 intro k
 induction k with
 | zero => exact fun j hj => absurd hj (Nat.not_lt_zero _)
 | succ k ih =>
   by_cases h : p k
   · rw [cF h]
     intro j hj
     by_cases e : j < (lst p k).length
     · have h1:=ih j e
       rw [bZ e]
       refine ⟨h1.1,by omega,fun h0=>?_⟩
       rw [bZ (by omega)]
       exact h1.2.2 h0
     · have e2 : j = (lst p k).length:=by simp at hj;omega
       rw [e2,cK]
       refine ⟨by omega,by omega,fun h0=>?_⟩
       rw [bZ (by omega)]
       have:=ih ((lst p k).length - 1) (by omega)
       omega
   · rw [cT h]
     exact fun j hj=>by have:=ih j hj;exact ⟨this.1,by omega,this.2.2⟩
theorem lA {p : Int → Prop} {xs ys : List Int} : ∀ {k : Nat},(∀ j,j < k → gi xs j = gi ys j) → dK p xs k = dK p ys k
 | 0, _ => rfl
 | k + 1, h => by
   have ih:=lA (p:=p) (k:=k) fun j hj=>h j (by omega)
   have hk:=h k (by omega)
   by_cases hp : p (gi xs k)
   · rw [df hp,df (by rw [← hk];exact hp),ih,hk]
   · rw [du hp,du (by rw [← hk];exact hp),ih]
theorem gg {p : Int → Prop} {q : Nat → Prop} : ∀ {n : Nat},dK p (lst q n) (lst q n).length = lst (fun v=>p v ∧ q v) n
 | 0 => rfl
 | n + 1 => by
   by_cases h : q n
   · rw [cF h,List.length_append]
     show dK p _ ((lst q n).length + 1) = _
     have e:=lA (p:=p) (xs:=lst q n ++ [(n : Int)]) (ys:=lst q n) (k:=(lst q n).length) fun j hj=>bZ hj
     have el:=cK (lst q n) (n : Int)
     by_cases hp : p n
     · rw [df (by rw [el];exact hp),e,gg,el,cF ⟨hp,h⟩]
     · rw [du (by rw [el];exact hp),e,gg,cT fun h'=>hp h'.1]
   · rw [cT h,gg,cT fun h'=>h h'.2]
theorem kw {S : Nat → Prop} {n v : Nat} (hv : v < n) : (v : Int) ∈ lst S n ↔ S v:=by
 rw [c8]
 exact ⟨fun ⟨u, h1, h2, h3⟩ => by obtain rfl : v = u := by omega
                                  exact h2,fun h=>⟨v,hv,h,rfl⟩⟩
theorem pW {S : Nat → Prop} {n : Nat} (hS : ∀ v,S v → v < n) : (fun v : Nat=>(v : Int) ∈ lst S n) = S:=funext fun v=>propext
 ⟨fun h => by obtain ⟨u, h1, h2, h3⟩ := c8.1 h
              obtain rfl : v = u:=by omega
              exact h2,fun h=>(kw (hS v h)).2 h⟩
theorem ro {g : Pa} {who : Int} {S T : Nat → Prop} (hS : ∀ v,S v → v < g.prio.length) (hT : ∀ v,T v → v < g.prio.length) : sY g who (lst S g.prio.length) (lst T g.prio.length) = lst (PG.Attr (pgA g) who S T) g.prio.length:=by
 unfold sY
 rw [pW hS,pW hT]
theorem rp {n : Nat} (S T : Nat → Prop) : dK (fun x=>¬ x ∈ lst T n) (lst S n) (lst S n).length = lst (PG.Diff S T) n:=by
 rw [gg]
 exact gy fun v hv=>⟨fun h=>⟨h.2,fun h'=>h.1 ((kw hv).2 h')⟩,fun h=>⟨fun h'=>h.2 ((kw hv).1 h'),h.1⟩⟩
theorem rq {g : Pa} (hg : PaOk g) (S : Nat → Prop) (d : Int) : dK (fun x=>gi g.prio x.toNat = d) (lst S g.prio.length) (lst S g.prio.length).length = lst (fun v=>S v ∧ (pgA g).prio v = d) g.prio.length:=by
 rw [gg]
 refine gy fun v hv=>?_
 rw [show (pgA g).prio v = gi g.prio v from kv (dS hg) hv,Int.toNat_natCast]
 exact And.comm
theorem i5 {S : Nat → Prop} {n : Nat} : (lst S n).length = num S n:=by
 induction n with
 | zero => rfl
 | succ n ih =>
   by_cases h : S n
   · rw [cF h,bV h,List.length_append,ih];rfl
   · rw [cT h,ck h,ih]
theorem nD {S T : Nat → Prop} {n : Nat} (h : ∀ v,T v → S v) (hS : ∀ v,S v → v < n) (hl : (lst S n).length ≤ (lst T n).length) : T = S:=funext fun v=>propext ⟨h v,fun hv=>by
 refine Classical.byContradiction fun hno=>?_
 have:=jZ (p:=S) (q:=T) (k:=n) (fun t _ ht=>h t ht) ⟨v,hS v hv,hv,hno⟩
 rw [i5,i5] at hl
 omega⟩
theorem rr {S T : Nat → Prop} {n : Nat} (h : ∀ v,T v → S v) : (lst T n).length ≤ (lst S n).length:=by
 rw [i5,i5]
 exact qm h
def dW (xs : List Int) : Nat → Nat
 | 0 => 0
 | k + 1 => dW xs k ||| 2 ^ (gi xs k).toNat
theorem jM {xs : List Int} {i : Nat} : ∀ {k : Nat},(dW xs k).testBit i = true ↔ ∃ j,j < k ∧ (gi xs j).toNat = i
 | 0 => by
   constructor
   · intro h
     rw [dW,Nat.zero_testBit] at h;cases h
   · rintro ⟨j,h,_⟩
     exact absurd h (Nat.not_lt_zero j)
 | k + 1 => by
   rw [dW,Nat.testBit_or,Bool.or_eq_true,jM,Nat.testBit_two_pow,decide_eq_true_eq]
   constructor
   · rintro (⟨j,h,e⟩|e)
     · exact ⟨j,by omega,e⟩
     · exact ⟨k,by omega,e⟩
   · rintro ⟨j,h,e⟩
     rcases Nat.lt_or_ge j k with h'|h'
     · exact .inl ⟨j,h',e⟩
     · obtain rfl : j = k:=by omega
       exact .inr e
theorem kx {xs : List Int} : ∀ {k : Nat},(∀ j,j < k → (gi xs j).toNat < 12) → dW xs k < 2 ^ 12
 | 0, _ => Nat.two_pow_pos 12
 | k + 1, h => Nat.or_lt_two_pow (kx fun j hj => h j (by omega)) (Nat.pow_lt_pow_right (by omega) (h k (by omega)))
theorem pX {S : Nat → Prop} {n v : Nat} : (dW (lst S n) (lst S n).length).testBit v = true ↔ v < n ∧ S v:=by
 rw [jM]
 constructor
 · rintro ⟨j,h1,h2⟩
   obtain ⟨u,h3,h4,h5⟩:=c8.1 (cy h1)
   obtain rfl : u = v:=by omega
   exact ⟨h3,h4⟩
 · rintro ⟨h1,h2⟩
   obtain ⟨j,h3,h4⟩:=cG (c8.2 ⟨v,h1,h2,rfl⟩)
   exact ⟨j,h3,by omega⟩
theorem rt {S T : Nat → Prop} {n : Nat} (hS : ∀ v,S v → v < n) (hT : ∀ v,T v → v < n) (e : dW (lst S n) (lst S n).length = dW (lst T n) (lst T n).length) : S = T:=funext fun v=>propext (by
 have h1:=pX (S:=S) (n:=n) (v:=v)
 have h2:=pX (S:=T) (n:=n) (v:=v)
 rw [e] at h1
 exact ⟨fun h=>(h2.1 (h1.2 ⟨hS v h,h⟩)).2,fun h=>(h1.1 (h2.2 ⟨hT v h,h⟩)).2⟩)
theorem lB {a : Nat} (h : a < 2 ^ 62) : IntKind.i64.wrap (a : Int) = a:=q8 (by omega)
theorem s8 {a b : Nat} (ha : a < 2 ^ 12) (hb : b < 2 ^ 12) : IntKind.i64.wrap (((BitVec.ofInt 64 (a : Int) ||| BitVec.ofInt 64 (b : Int)).toNat : Nat) : Int) = ((a ||| b : Nat) : Int):=by
 have h:=Nat.or_lt_two_pow ha hb
 rw [show (BitVec.ofInt 64 (a : Int) ||| BitVec.ofInt 64 (b : Int)).toNat = a ||| b by
  rw [BitVec.ofInt_natCast,BitVec.ofInt_natCast,BitVec.toNat_or,BitVec.toNat_ofNat,BitVec.toNat_ofNat,Nat.mod_eq_of_lt (by omega),Nat.mod_eq_of_lt (by omega)]]
 exact lB (by omega)
theorem s9 {a : Nat} {v : Int} (ha : a < 2 ^ 12) (hv : v.toNat < 12) : bits BinOp.or IntKind.i64 (a : Int) (IntKind.i64.wrap (2 ^ v.toNat)) = ((a ||| 2 ^ v.toNat : Nat) : Int):=by
 have h2 : 2 ^ v.toNat < 2 ^ 12:=Nat.pow_lt_pow_right (by omega) hv
 have h3 : ((2 : Int) ^ v.toNat) = ((2 ^ v.toNat : Nat) : Int):=by rw [Int.natCast_pow];rfl
 rw [h3,lB (by omega)]
 exact s8 ha h2
theorem ru (x : Int) : IntKind.i64.wrap x = wrap64 x:=by rw [IntKind.wrap_i64];unfold wrap64;try rfl
theorem pY {a : Nat} {v : Int} (ha : a < 2 ^ 12) (hv : v.toNat < 12) : bits BinOp.or IntKind.i64 (a : Int) (wrap64 (2 ^ v.toNat)) = ((a ||| 2 ^ v.toNat : Nat) : Int):=by
 rw [← s9 ha hv,ru]
end Go.Proofs.Ythjamlponejffaa
