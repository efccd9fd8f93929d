/-
  All stages, the program: the walk.
-/
import Derived.Test.YtdkkhhfhdijfmaaZsCb
import Derived.Test.YtdkkhhfhdijfmaaZsX8
import Derived.Test.YtdkkhhfhdijfmaaZsStage
import Derived.Test.YtdkkhhfhdijfmaaZsP11
import Derived.Test.YtdkkhhfhdijfmaaZsM3
namespace Go.Proofs.Ytdkkhhfhdijfmaa
set_option linter.unusedVariables false
set_option linter.unusedSimpArgs false
open Go.RowKit
attribute [local go_sem ↓] Go.wp_at_zero Go.wp_at_succ
theorem nH {lo lo' hi' n sz : Nat} {e e' : TypeId} {w : World} {v u : Value} {xs us : List Value} (h : w.ownsRow lo e sz v n xs) (k : aY e' lo' hi' w u us) (hne : e ≠ e') : ∀ q,blk u = some q → v.ownBlock ≠ some q:=by
 intro q hq hv
 rcases h with ⟨_,⟨rfl,_⟩|⟨g,cap,cur,rfl,_,h1,_⟩⟩
 · cases hv
 · simp only [Value.ownBlock,Option.some.injEq] at hv
   subst hv
   rcases k with ⟨rfl,_⟩|⟨g',cap',cur',rfl,_,_,k1,_⟩
   · cases hq
   · simp only [blk,Value.ownBlock,Option.some.injEq] at hq
     subst hq
     rw [h1] at k1
     simp only [Option.some.injEq,Obj.cells.injEq] at k1
     exact hne k1.2.1
theorem dZ {lo n sz : Nat} {e : TypeId} {w w' : World} {v : Value} {xs : List Value} (h : w.ownsRow lo e sz v n xs) (hb : Below w.heap.size w w') : w'.ownsRow lo e sz v n xs:=by
 rcases h with ⟨h0,h|⟨g,cap,cur,rfl,h1,h2,h3⟩⟩
 · exact ⟨h0,.inl h⟩
 · exact ⟨h0,.inr ⟨g,cap,cur,rfl,h1,(hb.block g (Array.getElem?_eq_some_iff.1 h2).1).trans h2,h3⟩⟩
theorem di {lo n cap sz g : Nat} {e : TypeId} {w : World} {xs : List Value} (h : w.ownsRow lo e sz (.slice (some ⟨g,0,none⟩) n cap) n xs) {j : Nat} {u : Value} (hj : xs[j]? = some u) : w.cell? ⟨g,j,none⟩ = some u:=by
 have h1:=h.cells (g:=g) rfl j u hj
 have e : (⟨g,0,none⟩ : Addr).add j = ⟨g,j,none⟩:=by
  unfold Addr.add
  cases j with
  | zero => simp
  | succ j => simp
 rw [e] at h1
 exact h1
theorem sW : (Try.prog.info? 46).map (fun i=>(i.zero,i.size,i.bytes)) = some (some (.agg #[.slice none 0 0,.slice none 0 0,.int .i64 0]),3,56):=by kernel_rfl
theorem pw {w : World} {ops : Array Oper} {rest : List Oper} {o : Oper} {a : Act} {Q : Exit → Act → World → Prop} (hg : o.guard = none) (s x : Operand) (hop : o.op = .call { callee:=.builtin .append,args:=#[s,x],argTypes:=#[39,39] })
  {lo n gO cap : Nat} {cells : List Value} (hs : a.eval s = .slice (some ⟨gO,0,none⟩) n cap) (hown : w.ownsRow lo 46 3 (.slice (some ⟨gO,0,none⟩) n cap) n cells) (u0 u1 u2 : Value) (h0 : u0.oneCell' = true) (h1 : u1.oneCell' = true) (h2 : u2.oneCell' = true)
  (b c : Nat) (hx : a.eval x = .slice (some ⟨b,0,none⟩) 1 c) (k0 : w.cell? ⟨b,0,none⟩ = some u0) (k1 : w.cell? ⟨b,1,none⟩ = some u1) (k2 : w.cell? ⟨b,2,none⟩ = some u2) (hlen : n ≤ 1099511627776) (hbase : lo ≤ w.heap.size)
  (hK : ∀ gO' c' w',w'.ownsRow lo 46 3 (.slice (some ⟨gO',0,none⟩) (n + 1) c') (n + 1) (cells ++ [u0,u1,u2]) → w.grownBy w' (some gO) → wpList Try.prog ops Q rest (a.put o.dst (.slice (some ⟨gO',0,none⟩) (n + 1) c')) w') :
  wpList Try.prog ops Q (o :: rest) a w:=by
 obtain ⟨i0,hi',hz0,hz1,hz2⟩:=info_parts sW
 have hcells : ∀ (j : Nat) (u : Value),[u0,u1,u2][j]? = some u → w.cell? ((⟨b,0,none⟩ : Addr).add j) = some u:=by
  intro j u hj
  match j,hj with
  | 0, hj => simp at hj; subst hj; simpa [Addr.add] using k0
  | 1, hj => simp at hj; subst hj; simpa [Addr.add] using k1
  | 2, hj => simp at hj; subst hj; simpa [Addr.add] using k2
 have h1c : ∀ u ∈ [u0,u1,u2],u.oneCell' = true:=by
  intro u hu
  simp only [List.mem_cons,List.not_mem_nil,or_false] at hu
  rcases hu with rfl|rfl|rfl <;> assumption
 refine wpList_append_own _ hg s x 39 hop lo 46 i0 _ 3 56 Try.underlying39 hi' hz0 hz1 hz2 rfl (by decide) _ n cells hs hown ⟨b,0,none⟩ 1 c [u0,u1,u2] hx rfl hcells h1c (by unfold maxLen;omega) (by omega) hbase ?_
 intro v' w' q1 q2 _
 rcases id q1 with ⟨_,⟨_,e⟩|⟨g,cp,cur,e,_⟩⟩
 · omega
 · subst e
   exact hK g cp w' q1 q2
end Go.Proofs.Ytdkkhhfhdijfmaa
namespace Go.Proofs.Ytdkkhhfhdijfmaa
set_option linter.unusedVariables false
set_option linter.unusedSimpArgs false
open Go.RowKit
attribute [local go_sem ↓] Go.wp_at_zero Go.wp_at_succ
theorem sX {w : World} {v : Value} {s : St} (h : IsS w v s) : AVC φ00 h00 w (stA s) v:=by
 obtain ⟨x,y,rfl,h1,h2⟩:=h
 exact lf (vs:=[x,y,.int .i64 s.at_]) (.cons (sg h1) (.cons (sg h2) (.cons (wR _ _) .nil)))
theorem rb {φ : Nat → Loc} {hp : Hp} {w : World} {l : List AV} {v : Value} (h : AVC φ hp w (.tup l) v) : ∃ vs : List Value,v = .tuple vs.toArray ∧ AVs φ hp w l vs:=by
 cases h with
 | tup hl h => exact ⟨_, rfl, .of hl h⟩
end Go.Proofs.Ytdkkhhfhdijfmaa
namespace Go.Proofs.Ytdkkhhfhdijfmaa
set_option linter.unusedVariables false
set_option linter.unusedSimpArgs false
open Go.RowKit
attribute [local go_sem ↓] Go.wp_at_zero Go.wp_at_succ
def vP : Value → Nat
 | .slice _ n _ => n
 | _ => 0
theorem nI {lo n cap sz g B : Nat} {e T : TypeId} {w : World} {xs cs : List Value} (h : w.ownsRow lo e sz (.slice (some ⟨g,0,none⟩) n cap) n xs) (hB : Blk w B cs T) (hne : e ≠ T) : g ≠ B:=by
 rintro rfl
 rcases h with ⟨_,⟨e1,_⟩|⟨g',cap',cur,e1,_,h1,_⟩⟩
 · cases e1
 · simp only [Value.slice.injEq,Option.some.injEq,Addr.mk.injEq,and_true,true_and] at e1
   obtain ⟨rfl,-⟩:=e1
   have h2 : w.heap[g]? = some (.cells cs.toArray T (0,0)):=hB
   rw [h1] at h2
   simp only [Option.some.injEq,Obj.cells.injEq] at h2
   exact hne h2.2.1
theorem uh {lo n cap sz g : Nat} {e : TypeId} {w : World} {xs : List Value} (h : w.ownsRow lo e sz (.slice (some ⟨g,0,none⟩) n cap) n xs) : lo ≤ g:=by
 rcases h with ⟨_,⟨e1,_⟩|⟨g',cap',cur,e1,hlo,_⟩⟩
 · cases e1
 · simp only [Value.slice.injEq,Option.some.injEq,Addr.mk.injEq,and_true,true_and] at e1
   obtain ⟨rfl,-⟩:=e1
   exact hlo
end Go.Proofs.Ytdkkhhfhdijfmaa
