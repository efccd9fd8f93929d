/-
  The arguments of a law opened; the row's last step.
-/
import Derived.Test.YtfaefmabjjndeaaZeCa
import Derived.ChangeSame
import Derived.JoinedOf
import Derived.JoinedAt
import Derived.Carry
import Derived.Lib.SmallJoins
import Derived.Deep.Matrix
import Derived.Test.YtfaefmabjjndeaaZeCb
namespace Go.Proofs.Ytfaefmabjjndeaa
set_option linter.unusedVariables false
set_option linter.unusedSimpArgs false
open Go.RowKit Go.ChangeShapes Go.WideShapes Go.ChangeAt Go.Deep Go.Joins
theorem gW {w : World} {a : Addr} {n : Nat} {f : Nat → Value} (h : ∀ i,i < n → w.cell? (a.add i) = some (f i)) : (0 < n → a.spot = none) ∧ ∀ i,i < n → w.cell? ⟨a.block,a.off + i,none⟩ = some (f i):=by
 have hs : 0 < n → a.spot = none:=fun hn=>by
  have h0:=h 0 hn
  simp only [Addr.add,if_true] at h0
  unfold World.cell? at h0
  cases hq : a.spot with
  | none => rfl
  | some x => rw [hq] at h0; split at h0 <;> simp at h0
 refine ⟨hs,fun i hi=>?_⟩
 have:=h i hi
 by_cases e : i = 0
 · subst e
   have hsp:=hs (by omega)
   obtain ⟨b,o,s⟩:=a
   simp only at hsp
   subst hsp
   simpa [Addr.add] using this
 · simpa [Addr.add,e] using this
def Wf (xs : List Int) : Prop:=∀ n ∈ xs,(Lit.int .i64 n).wf = true
theorem Wf.le {xs : List Int} (h : Wf xs) : ∀ k,k < xs.length → -9223372036854775808 ≤ gi xs k ∧ gi xs k ≤ 9223372036854775807:=fun k hk=>by
 have:=h _ (dI hk)
 simp only [Lit.wf,IntKind.min,IntKind.max,IntKind.signed,IntKind.bits,Bool.and_eq_true,decide_eq_true_eq,if_true] at this
 omega
section
variable {H : Type} {enc : TypeId × Value → H} {W : World} {base : Nat}
theorem rY {n : Nat} {v : Value} {x : DataW H × List MemPlace} (h : DataW.trod enc Try.prog W base (fun _=>true) true n 27 [v] = some x) : ∃ xs,IsI W v xs ∧ Wf xs:=by
 rcases open_ints Try.underlying27 Try.underlying2 (by kernel_rfl) h with ⟨hcs,_⟩|⟨a,len,cap,zs,hcs,hb,hl,hm,hz,hx,hc,hw⟩
 · simp only [List.cons.injEq,and_true] at hcs
   subst hcs
   exact ⟨[],(rP W).is,fun n hn=>by simp at hn⟩
 · simp only [List.cons.injEq,and_true] at hcs
   subst hcs
   simp only [if_true] at hz
   unfold maxLen at hm
   obtain ⟨h1,h2⟩:=gW (w:=W) (a:=a) (n:=len) (f:=fun i=>.int .i64 (zs.getD i 0)) (fun i hi=>hc i (by omega))
   refine ⟨zs.take len,⟨some a,len,cap,rfl,by simp;omega,⟨hl,by omega,fun e=>(by cases e),fun ad e hn=>(by cases e;exact h1 hn),fun ad e k hk=>?_⟩⟩,fun n hn=>hw n (List.mem_of_mem_take hn)⟩
   cases e
   rw [h2 k hk]
   simp [gi,List.getD_eq_getElem?_getD,List.getElem?_take,hk]
theorem u7 {n : Nat} {v : Value} {x : DataW H × List MemPlace} (h : DataW.trod enc Try.prog W base (fun _=>true) true n 28 [v] = some x) : ∃ xss,fj W v xss ∧ ∀ k,k < xss.length → Wf (gr xss k):=by
 rcases open_int_rows Try.underlying28 Try.underlying27 Try.underlying2 (by kernel_rfl) (by kernel_rfl) h with ⟨hcs,_⟩|⟨a,len,cap,A,L,C,Z,hcs,hb,hl,hm,hx,hr⟩
 · simp only [List.cons.injEq,and_true] at hcs
   subst hcs
   exact ⟨[],(rQ W).is,fun k hk=>by simp at hk⟩
 · simp only [List.cons.injEq,and_true] at hcs
   subst hcs
   unfold maxLen at hm
   obtain ⟨h1,h2⟩:=gW (w:=W) (a:=a) (n:=len) (f:=fun i=>.slice (A i) (L i) (C i)) (fun i hi=>(hr i (by omega)).1)
   have hgr : ∀ k,k < len → gr ((List.range len).map fun r=>(Z r).take (L r)) k = (Z k).take (L k):=fun k hk=>by simp [gr,List.getD_eq_getElem?_getD,hk]
   refine ⟨(List.range len).map fun r=>(Z r).take (L r),⟨some a,len,cap,rfl,by simp,A,L,C,⟨hl,by omega,fun e=>(by cases e),fun ad e hn=>(by cases e;exact h1 hn),fun ad e k hk=>(by cases e;exact h2 k hk)⟩,fun k hk=>?_⟩,fun k hk=>?_⟩
   · rw [hgr k hk]
     obtain ⟨_,r1,r2,r3,r4,r5,r6⟩:=hr k (by omega)
     unfold maxLen at r2
     refine ⟨by simp;omega,⟨r1,by omega,fun e=>by have:=r5 e;omega,fun ad e hn=>?_,fun ad e j hj=>?_⟩⟩
     · obtain ⟨h3,h4⟩:=gW (w:=W) (a:=ad) (n:=L k) (f:=fun i=>.int .i64 ((Z k).getD i 0)) (fun i hi=>(r6 ad e).2 i (by omega))
       exact h3 hn
     · obtain ⟨h3,h4⟩:=gW (w:=W) (a:=ad) (n:=L k) (f:=fun i=>.int .i64 ((Z k).getD i 0)) (fun i hi=>(r6 ad e).2 i (by omega))
       rw [h4 j hj]
       simp [gi,List.getD_eq_getElem?_getD,List.getElem?_take,hj]
   · simp only [List.length_map,List.length_range] at hk
     rw [hgr k hk]
     exact fun n hn=>(hr k (by omega)).2.2.2.2.1 n (List.mem_of_mem_take hn)
def WfA (a : Ar) : Prop:=Wf a.own ∧ ∀ k,k < a.nxt.length → Wf (gr a.nxt k)
def WfP (g : Pa) : Prop:=WfA g.ar ∧ Wf g.prio
theorem kX (hl : laidOutB Try.prog = true) {W' : World} (hb : Below W.heap.size W W') : ∀ (ts : List TypeId) (vs : List Value) (ds : List (DataW H)) (ps : List MemPlace),(∀ t ∈ ts,Try.prog.readableRec t = true ∧ t < Try.prog.types.size) →
  DataW.TrodAll enc Try.prog W 0 (fun _=>true) true ts vs ds ps → (∀ x ∈ ps,x.block < W.heap.size) → ∀ sp : Nat → Bool,(∀ p ∈ ps,sp p.block = true) → DataW.TrodAll enc Try.prog W' 0 sp true ts vs ds ps:=by
 intro ts
 induction ts with
 | nil =>
   intro vs ds ps _ h _ sp _
   obtain ⟨rfl,rfl,rfl⟩:=trodAll_nil h
   rfl
 | cons t ts ih =>
   intro vs ds ps hr h hlt sp hsp
   obtain ⟨v,vs',d,ds',p,q,rfl,rfl,rfl,h1,h2⟩:=trodAll_cons h
   have ht:=hr t (by simp)
   exact ⟨p,q,WideElems.Trod_stays hl ht.1 ht.2 h1 (fun x hx=>hb.same (hlt x (by simp [hx]))) (fun x hx=>hsp x (by simp [hx])),ih vs' ds' q (fun t' h'=>hr t' (by simp [h'])) h2 (fun x hx=>hlt x (by simp [hx])) sp (fun x hx=>hsp x (by simp [hx])),rfl⟩
set_option maxRecDepth 100000 in

theorem rZ {f : Func} {s : ChangeSpec} {W' : World} {args : Array Value} {ds : List (DataW H)} {before : List MemPlace}
  (hl : laidOutB Try.prog = true) (hr : ∀ t ∈ f.params.toList,Try.prog.readableRec t = true ∧ t < Try.prog.types.size) (hres : f.resultTypes = #[4]) (hvars : s.vars = [])
  (hfn : s.fn H ds = { results:=[.lit (.bool true)],args:=ds })
  (hW : DataW.Whole enc Try.prog f.params.toList s.vars false W args.toList ds [] before) (hb : Below W.heap.size W W') :
  s.post enc Try.prog f false true false false W args (.bool true) W':=by
 have hlt : ∀ p ∈ before,p.block < W.heap.size:=fun p hp=>hW.lt p hp
 obtain ⟨p,q,hA,hV,hp,hz,hn⟩:=id hW
 rw [hvars] at hV
 obtain ⟨-,rfl⟩:=trodVars_none hV
 rw [List.append_nil] at hp
 subst hp
 have hargs : ∀ sp : Nat → Bool,(∀ x ∈ before,sp x.block = true) → DataW.TrodAll enc Try.prog W' 0 sp true f.params.toList args.toList ds before:=fun sp hsp=>kX hl hb _ _ _ _ hr hA hlt sp hsp
 have hspec : s.fn H (ds ++ []) = { results:=[.lit (.bool true)],args:=ds }:=by rw [List.append_nil];exact hfn
 have hone : ∀ (b : Nat) (sp : Nat → Bool) (hd : Bool),DataW.TrodAll enc Try.prog W' b sp hd f.resultTypes.toList ((Value.bool true).resultList f.resultTypes.size) (s.fn H (ds ++ [])).results []:=fun b sp hd=>by
  rw [hspec,hres]
  exact trodAll_cons_mk (shut_bool Try.underlying4 _) trodAll_mk0
 have hok:=ok_one hres rfl (okWide_bool_mk (W':=W') Try.underlying4 true)
 refine ⟨ds,[],before,[],before,[],hW,hone _ _ _,by rw [hspec];exact hargs _ (fun x hx=>by simpa using hlt x hx),by rw [hspec,hvars];rfl,World.keptBut_mono (fun x hx=>⟨hx,?_⟩) (hb.frame (· ∈ before)),fun hag=>by cases hag⟩
 exact Or.inr (by simpa using hx)
end
end Go.Proofs.Ytfaefmabjjndeaa
namespace Go.Proofs.Ytfaefmabjjndeaa
set_option linter.unusedVariables false
set_option linter.unusedSimpArgs false
open Go.RowKit
theorem own : ownKnob Try.prog.godebug = none:=by kernel_rfl
theorem xq : laidOutB Try.prog = true:=by kernel_rfl
end Go.Proofs.Ytfaefmabjjndeaa
namespace Go.Proofs.Ytfaefmabjjndeaa
set_option linter.unusedVariables false
set_option linter.unusedSimpArgs false
open Go.RowKit Go.ChangeShapes Go.WideShapes Go.ChangeAt Go.Deep Go.Joins
section
variable {H : Type} {enc : TypeId × Value → H} {W : World} {base : Nat}
set_option maxRecDepth 100000 in
theorem r7 {r : Reach} {b0 : Nat} {v : Value} {d : DataW H} {p : List MemPlace} (hv : Value.okWide Try.prog W r b0 27 v) (h : DataW.Trod enc Try.prog W base (fun _=>true) true 27 v d p) : ∃ xs,IsI W v xs ∧ Wf xs:=by
 obtain ⟨a,n,c,rfl⟩:=okWide_slice Try.underlying27 hv
 obtain ⟨fuel,hf⟩:=h
 simp [Value.cells] at hf
 exact rY hf
end
end Go.Proofs.Ytfaefmabjjndeaa
