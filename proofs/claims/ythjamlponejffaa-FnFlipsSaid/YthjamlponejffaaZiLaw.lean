/-
  The arguments of a law opened; the row's last step.
-/
import Derived.Test.YthjamlponejffaaZiCa
import Derived.ChangeSame
import Derived.JoinedOf
import Derived.JoinedAt
import Derived.Carry
import Derived.Lib.SmallJoins
import Derived.Deep.Matrix
import Derived.Test.YthjamlponejffaaZiCb
namespace Go.Proofs.Ythjamlponejffaa
set_option linter.unusedVariables false
set_option linter.unusedSimpArgs false
open Go.RowKit Go.ChangeShapes Go.WideShapes Go.ChangeAt Go.Deep Go.Joins
theorem nl {w : World} {a : Addr} {n : Nat} {f : Nat → Value} (h : ∀ i,i < n → w.cell? (a.add i) = some (f i)) : (0 < n → a.spot = none) ∧ ∀ i,i < n → w.cell? ⟨a.block,a.off + i,none⟩ = some (f i):=by
 have hs : 0 < n → a.spot = none:=fun hn=>by
  have h0:=h 0 hn
  simp only [Addr.add,if_true] at h0
  unfold World.cell? at h0
  cases hq : a.spot with
  | none => rfl
  | some x => rw [hq] at h0; split at h0 <;> simp at h0
 refine ⟨hs,fun i hi=>?_⟩
 have:=h i hi
 by_cases e : i = 0
 · subst e
   have hsp:=hs (by omega)
   obtain ⟨b,o,s⟩:=a
   simp only at hsp
   subst hsp
   simpa [Addr.add] using this
 · simpa [Addr.add,e] using this
def Wf (xs : List Int) : Prop:=∀ n ∈ xs,(Lit.int .i64 n).wf = true
theorem Wf.le {xs : List Int} (h : Wf xs) : ∀ k,k < xs.length → -9223372036854775808 ≤ gi xs k ∧ gi xs k ≤ 9223372036854775807:=fun k hk=>by
 have:=h _ (dz hk)
 simp only [Lit.wf,IntKind.min,IntKind.max,IntKind.signed,IntKind.bits,Bool.and_eq_true,decide_eq_true_eq,if_true] at this
 omega
section
variable {H : Type} {enc : TypeId × Value → H} {W : World} {base : Nat}
theorem iY (hl : laidOutB Try.prog = true) {W' : World} (hb : Below W.heap.size W W') : ∀ (ts : List TypeId) (vs : List Value) (ds : List (DataW H)) (ps : List MemPlace),(∀ t ∈ ts,Try.prog.readableRec t = true ∧ t < Try.prog.types.size) →
  DataW.TrodAll enc Try.prog W 0 (fun _=>true) true ts vs ds ps → (∀ x ∈ ps,x.block < W.heap.size) → ∀ sp : Nat → Bool,(∀ p ∈ ps,sp p.block = true) → DataW.TrodAll enc Try.prog W' 0 sp true ts vs ds ps:=by
 intro ts
 induction ts with
 | nil =>
   intro vs ds ps _ h _ sp _
   obtain ⟨rfl,rfl,rfl⟩:=trodAll_nil h
   rfl
 | cons t ts ih =>
   intro vs ds ps hr h hlt sp hsp
   obtain ⟨v,vs',d,ds',p,q,rfl,rfl,rfl,h1,h2⟩:=trodAll_cons h
   have ht:=hr t (by simp)
   exact ⟨p,q,WideElems.Trod_stays hl ht.1 ht.2 h1 (fun x hx=>hb.same (hlt x (by simp [hx]))) (fun x hx=>hsp x (by simp [hx])),ih vs' ds' q (fun t' h'=>hr t' (by simp [h'])) h2 (fun x hx=>hlt x (by simp [hx])) sp (fun x hx=>hsp x (by simp [hx])),rfl⟩
set_option maxRecDepth 100000 in

theorem oF {f : Func} {s : ChangeSpec} {W' : World} {args : Array Value} {ds : List (DataW H)} {before : List MemPlace}
  (hl : laidOutB Try.prog = true) (hr : ∀ t ∈ f.params.toList,Try.prog.readableRec t = true ∧ t < Try.prog.types.size) (hres : f.resultTypes = #[4]) (hvars : s.vars = [])
  (hfn : s.fn H ds = { results:=[.lit (.bool true)],args:=ds })
  (hW : DataW.Whole enc Try.prog f.params.toList s.vars false W args.toList ds [] before) (hb : Below W.heap.size W W') :
  s.post enc Try.prog f false true false false W args (.bool true) W':=by
 have hlt : ∀ p ∈ before,p.block < W.heap.size:=fun p hp=>hW.lt p hp
 obtain ⟨p,q,hA,hV,hp,hz,hn⟩:=id hW
 rw [hvars] at hV
 obtain ⟨-,rfl⟩:=trodVars_none hV
 rw [List.append_nil] at hp
 subst hp
 have hargs : ∀ sp : Nat → Bool,(∀ x ∈ before,sp x.block = true) → DataW.TrodAll enc Try.prog W' 0 sp true f.params.toList args.toList ds before:=fun sp hsp=>iY hl hb _ _ _ _ hr hA hlt sp hsp
 have hspec : s.fn H (ds ++ []) = { results:=[.lit (.bool true)],args:=ds }:=by rw [List.append_nil];exact hfn
 have hone : ∀ (b : Nat) (sp : Nat → Bool) (hd : Bool),DataW.TrodAll enc Try.prog W' b sp hd f.resultTypes.toList ((Value.bool true).resultList f.resultTypes.size) (s.fn H (ds ++ [])).results []:=fun b sp hd=>by
  rw [hspec,hres]
  exact trodAll_cons_mk (shut_bool Try.underlying4 _) trodAll_mk0
 have hok:=ok_one hres rfl (okWide_bool_mk (W':=W') Try.underlying4 true)
 refine ⟨ds,[],before,[],before,[],hW,hone _ _ _,by rw [hspec];exact hargs _ (fun x hx=>by simpa using hlt x hx),by rw [hspec,hvars];rfl,World.keptBut_mono (fun x hx=>⟨hx,?_⟩) (hb.frame (· ∈ before)),fun hag=>by cases hag⟩
 exact Or.inr (by simpa using hx)
end
end Go.Proofs.Ythjamlponejffaa
namespace Go.Proofs.Ythjamlponejffaa
set_option linter.unusedVariables false
set_option linter.unusedSimpArgs false
open Go.RowKit
theorem own : ownKnob Try.prog.godebug = none:=by kernel_rfl
theorem tT : laidOutB Try.prog = true:=by kernel_rfl
end Go.Proofs.Ythjamlponejffaa
namespace Go.Proofs.Ythjamlponejffaa
set_option linter.unusedVariables false
set_option linter.unusedSimpArgs false
open Go.RowKit Go.ChangeShapes Go.WideShapes Go.ChangeAt Go.Deep Go.Joins
end Go.Proofs.Ythjamlponejffaa
