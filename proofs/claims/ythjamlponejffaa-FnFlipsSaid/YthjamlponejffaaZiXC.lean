/-
  Old contracts as contracts over data, of any shape.
-/
import Derived.Test.YthjamlponejffaaZiFc
import Derived.Test.YthjamlponejffaaZiCb
namespace Go.Proofs.Ythjamlponejffaa
set_option linter.unusedVariables false
set_option linter.unusedSimpArgs false
open Go.RowKit
theorem oc {P : Program} {f : FuncId} {args : List AV} {fn : Func} (hf : P.funcs[f]? = some fn) (hb : fn.body.isNone = false) (hname : (fn.name == "runtime.NumGoroutine") = false) {x : AV}
  (h : ∀ φ hp w (vs : List Value),AVs φ hp w args vs → Calls P f vs.toArray w fun e w'=>∃ v,e = .returned v ∧ (∀ φ' hp',(∀ b,w.heap.size ≤ b → ¬ Own φ' hp' b) → AVC φ' hp' w' x v) ∧ Below w.heap.size w w') : ap P f args [] fun _=>x:=by
 refine ⟨⟨fn,hf,hb,hname⟩,fun φ0 hp0 w vs hX H hl hv=>(h φ0 hp0 w vs (.of hl hv)).mono fun e w' ⟨v,he,hr,hbw⟩=>⟨v,he,?_⟩⟩
 intro ν hl hn hf
 have : ν = []:=List.eq_nil_of_length_eq_zero hl
 subst this
 have hE : Evo φ0 hp0 w φ0 (bt (aI hp0 []) [] []) w':=⟨fun ν e he=>⟨e,he,.inr ⟨rfl,rfl⟩⟩,fun b hb ho=>⟨hbw.block b hb,ho⟩,hbw.size,fun b hb _=>hbw.block b hb⟩
 refine ⟨φ0,⟨hbw,hbw.size,H.fin,fun ν e he=>?_,H.sep,fun ν b hm hb'=>H.lo ν b hm hb'⟩,hE,hr _ _ fun b hb ho=>?_⟩
 · exact (H.ent ν e he).evo hE fun hk b hb'=>hbw.block b (H.lt ⟨e,he,hk⟩ hb')
 · have:=H.own_lt ho;omega
theorem ra {O : Nat → Prop} {lo hi : Nat} {w : World} {v : Value} {xss : List (List Int)} {vs : List Value} (h : bi lo hi w v xss vs) (hO : ∀ b,lo ≤ b → ¬ O b) : Rd O w (.R xss) v :=
 mc (.slice none 0 0) h.2.1 hO rfl (by simp [h.1]) rfl rfl fun i hi=>gt (h.2.2.1 i (by rw [← h.1];exact hi)) hO
end Go.Proofs.Ythjamlponejffaa
