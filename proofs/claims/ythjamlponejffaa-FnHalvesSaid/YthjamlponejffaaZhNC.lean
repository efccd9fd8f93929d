/-
  Queries, the program: lists of vertices as sets, and a query's key.
-/
import Derived.Test.YthjamlponejffaaZhNA
import Derived.Test.YthjamlponejffaaZhAt4
import Derived.Test.YthjamlponejffaaZhBs
namespace Go.Proofs.Ythjamlponejffaa
set_option linter.unusedVariables false
set_option linter.unusedSimpArgs false
open Go.RowKit
theorem ov (p : Nat → Prop) : ∀ k,(lst p k).Pairwise (· < ·)
 | 0 => by simp [lst]
 | k + 1 => by
   by_cases h : p k
   · rw [dw h,List.pairwise_append]
     refine ⟨ov p k,by simp,fun x hx y hy=>?_⟩
     obtain ⟨v,h1,_,rfl⟩:=cW.1 hx
     simp at hy
     omega
   · rw [d9 h];exact ov p k
theorem iU (p : Nat → Prop) : ∀ k : Nat,bD (lst p k) k:=by
 intro k
 induction k with
 | zero => exact fun j hj => absurd hj (Nat.not_lt_zero _)
 | succ k ih =>
   by_cases h : p k
   · rw [dw h]
     intro j hj
     by_cases e : j < (lst p k).length
     · have h1:=ih j e
       rw [cA e]
       refine ⟨h1.1,by omega,fun h0=>?_⟩
       rw [cA (by omega)]
       exact h1.2.2 h0
     · have e2 : j = (lst p k).length:=by simp at hj;omega
       rw [e2,dz]
       refine ⟨by omega,by omega,fun h0=>?_⟩
       rw [cA (by omega)]
       have:=ih ((lst p k).length - 1) (by omega)
       omega
   · rw [d9 h]
     exact fun j hj=>by have:=ih j hj;exact ⟨this.1,by omega,this.2.2⟩
theorem mY {p : Int → Prop} {xs ys : List Int} : ∀ {k : Nat},(∀ j,j < k → gi xs j = gi ys j) → dB p xs k = dB p ys k
 | 0, _ => rfl
 | k + 1, h => by
   have ih:=mY (p:=p) (k:=k) fun j hj=>h j (by omega)
   have hk:=h k (by omega)
   by_cases hp : p (gi xs k)
   · rw [c9 hp,c9 (by rw [← hk];exact hp),ih,hk]
   · rw [dl hp,dl (by rw [← hk];exact hp),ih]
theorem iz {p : Int → Prop} {q : Nat → Prop} : ∀ {n : Nat},dB p (lst q n) (lst q n).length = lst (fun v=>p v ∧ q v) n
 | 0 => rfl
 | n + 1 => by
   by_cases h : q n
   · rw [dw h,List.length_append]
     show dB p _ ((lst q n).length + 1) = _
     have e:=mY (p:=p) (xs:=lst q n ++ [(n : Int)]) (ys:=lst q n) (k:=(lst q n).length) fun j hj=>cA hj
     have el:=dz (lst q n) (n : Int)
     by_cases hp : p n
     · rw [c9 (by rw [el];exact hp),e,iz,el,dw ⟨hp,h⟩]
     · rw [dl (by rw [el];exact hp),e,iz,d9 fun h'=>hp h'.1]
   · rw [d9 h,iz,d9 fun h'=>h h'.2]
theorem eJ {S : Nat → Prop} {n v : Nat} (hv : v < n) : (v : Int) ∈ lst S n ↔ S v:=by
 rw [cW]
 exact ⟨fun ⟨u, h1, h2, h3⟩ => by obtain rfl : v = u := by omega
                                  exact h2,fun h=>⟨v,hv,h,rfl⟩⟩
theorem ow {S : Nat → Prop} {n : Nat} (hS : ∀ v,S v → v < n) : (fun v : Nat=>(v : Int) ∈ lst S n) = S:=funext fun v=>propext
 ⟨fun h => by obtain ⟨u, h1, h2, h3⟩ := cW.1 h
              obtain rfl : v = u:=by omega
              exact h2,fun h=>(eJ (hS v h)).2 h⟩
theorem ux {g : Pa} {who : Int} {S T : Nat → Prop} (hS : ∀ v,S v → v < g.prio.length) (hT : ∀ v,T v → v < g.prio.length) : wg g who (lst S g.prio.length) (lst T g.prio.length) = lst (PG.Attr (pgA g) who S T) g.prio.length:=by
 unfold wg
 rw [ow hS,ow hT]
theorem uy {n : Nat} (S T : Nat → Prop) : dB (fun x=>¬ x ∈ lst T n) (lst S n) (lst S n).length = lst (PG.Diff S T) n:=by
 rw [iz]
 exact ff fun v hv=>⟨fun h=>⟨h.2,fun h'=>h.1 ((eJ hv).2 h')⟩,fun h=>⟨fun h'=>h.2 ((eJ hv).1 h'),h.1⟩⟩
theorem uz {g : Pa} (hg : PaOk g) (S : Nat → Prop) (d : Int) : dB (fun x=>gi g.prio x.toNat = d) (lst S g.prio.length) (lst S g.prio.length).length = lst (fun v=>S v ∧ (pgA g).prio v = d) g.prio.length:=by
 rw [iz]
 refine ff fun v hv=>?_
 rw [show (pgA g).prio v = gi g.prio v from iy (eZ hg) hv,Int.toNat_natCast]
 exact And.comm
theorem gw {S : Nat → Prop} {n : Nat} : (lst S n).length = num S n:=by
 induction n with
 | zero => rfl
 | succ n ih =>
   by_cases h : S n
   · rw [dw h,ct h,List.length_append,ih];rfl
   · rw [d9 h,cT h,ih]
theorem pw {S T : Nat → Prop} {n : Nat} (h : ∀ v,T v → S v) (hS : ∀ v,S v → v < n) (hl : (lst S n).length ≤ (lst T n).length) : T = S:=funext fun v=>propext ⟨h v,fun hv=>by
 refine Classical.byContradiction fun hno=>?_
 have:=iS (p:=S) (q:=T) (k:=n) (fun t _ ht=>h t ht) ⟨v,hS v hv,hv,hno⟩
 rw [gw,gw] at hl
 omega⟩
theorem uA {S T : Nat → Prop} {n : Nat} (h : ∀ v,T v → S v) : (lst T n).length ≤ (lst S n).length:=by
 rw [gw,gw]
 exact lS h
def fe (xs : List Int) : Nat → Nat
 | 0 => 0
 | k + 1 => fe xs k ||| 2 ^ (gi xs k).toNat
theorem la {xs : List Int} {i : Nat} : ∀ {k : Nat},(fe xs k).testBit i = true ↔ ∃ j,j < k ∧ (gi xs j).toNat = i
 | 0 => by
   constructor
   · intro h
     rw [fe,Nat.zero_testBit] at h;cases h
   · rintro ⟨j,h,_⟩
     exact absurd h (Nat.not_lt_zero j)
 | k + 1 => by
   rw [fe,Nat.testBit_or,Bool.or_eq_true,la,Nat.testBit_two_pow,decide_eq_true_eq]
   constructor
   · rintro (⟨j,h,e⟩|e)
     · exact ⟨j,by omega,e⟩
     · exact ⟨k,by omega,e⟩
   · rintro ⟨j,h,e⟩
     rcases Nat.lt_or_ge j k with h'|h'
     · exact .inl ⟨j,h',e⟩
     · obtain rfl : j = k:=by omega
       exact .inr e
theorem lX {xs : List Int} : ∀ {k : Nat},(∀ j,j < k → (gi xs j).toNat < 12) → fe xs k < 2 ^ 12
 | 0, _ => Nat.two_pow_pos 12
 | k + 1, h => Nat.or_lt_two_pow (lX fun j hj => h j (by omega)) (Nat.pow_lt_pow_right (by omega) (h k (by omega)))
theorem sB {S : Nat → Prop} {n v : Nat} : (fe (lst S n) (lst S n).length).testBit v = true ↔ v < n ∧ S v:=by
 rw [la]
 constructor
 · rintro ⟨j,h1,h2⟩
   obtain ⟨u,h3,h4,h5⟩:=cW.1 (cy h1)
   obtain rfl : u = v:=by omega
   exact ⟨h3,h4⟩
 · rintro ⟨h1,h2⟩
   obtain ⟨j,h3,h4⟩:=ck (cW.2 ⟨v,h1,h2,rfl⟩)
   exact ⟨j,h3,by omega⟩
theorem uB {S T : Nat → Prop} {n : Nat} (hS : ∀ v,S v → v < n) (hT : ∀ v,T v → v < n) (e : fe (lst S n) (lst S n).length = fe (lst T n) (lst T n).length) : S = T:=funext fun v=>propext (by
 have h1:=sB (S:=S) (n:=n) (v:=v)
 have h2:=sB (S:=T) (n:=n) (v:=v)
 rw [e] at h1
 exact ⟨fun h=>(h2.1 (h1.2 ⟨hS v h,h⟩)).2,fun h=>(h1.1 (h2.2 ⟨hT v h,h⟩)).2⟩)
theorem mZ {a : Nat} (h : a < 2 ^ 62) : IntKind.i64.wrap (a : Int) = a:=ql (by omega)
theorem wi {a b : Nat} (ha : a < 2 ^ 12) (hb : b < 2 ^ 12) : IntKind.i64.wrap (((BitVec.ofInt 64 (a : Int) ||| BitVec.ofInt 64 (b : Int)).toNat : Nat) : Int) = ((a ||| b : Nat) : Int):=by
 have h:=Nat.or_lt_two_pow ha hb
 rw [show (BitVec.ofInt 64 (a : Int) ||| BitVec.ofInt 64 (b : Int)).toNat = a ||| b by
  rw [BitVec.ofInt_natCast,BitVec.ofInt_natCast,BitVec.toNat_or,BitVec.toNat_ofNat,BitVec.toNat_ofNat,Nat.mod_eq_of_lt (by omega),Nat.mod_eq_of_lt (by omega)]]
 exact mZ (by omega)
theorem wj {a : Nat} {v : Int} (ha : a < 2 ^ 12) (hv : v.toNat < 12) : bits BinOp.or IntKind.i64 (a : Int) (IntKind.i64.wrap (2 ^ v.toNat)) = ((a ||| 2 ^ v.toNat : Nat) : Int):=by
 have h2 : 2 ^ v.toNat < 2 ^ 12:=Nat.pow_lt_pow_right (by omega) hv
 have h3 : ((2 : Int) ^ v.toNat) = ((2 ^ v.toNat : Nat) : Int):=by rw [Int.natCast_pow];rfl
 rw [h3,mZ (by omega)]
 exact wi ha h2
theorem uC (x : Int) : IntKind.i64.wrap x = wrap64 x:=by rw [IntKind.wrap_i64];unfold wrap64;try rfl
theorem sC {a : Nat} {v : Int} (ha : a < 2 ^ 12) (hv : v.toNat < 12) : bits BinOp.or IntKind.i64 (a : Int) (wrap64 (2 ^ v.toNat)) = ((a ||| 2 ^ v.toNat : Nat) : Int):=by
 rw [← wj ha hv,uC]
end Go.Proofs.Ythjamlponejffaa
