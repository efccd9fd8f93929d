/-
  All stages, the program: the walk.
-/
import Derived.Test.YtdkkhhfhdijfmaaZpCb
import Derived.Test.YtdkkhhfhdijfmaaZpX8
import Derived.Test.YtdkkhhfhdijfmaaZpStage
import Derived.Test.YtdkkhhfhdijfmaaZpP11
import Derived.Test.YtdkkhhfhdijfmaaZpM3
namespace Go.Proofs.Ytdkkhhfhdijfmaa
set_option linter.unusedVariables false
set_option linter.unusedSimpArgs false
open Go.RowKit
attribute [local go_sem ↓] Go.wp_at_zero Go.wp_at_succ
theorem tO {lo lo' hi' n sz : Nat} {e e' : TypeId} {w : World} {v u : Value} {xs us : List Value} (h : w.ownsRow lo e sz v n xs) (k : aX e' lo' hi' w u us) (hne : e ≠ e') : ∀ q,blk u = some q → v.ownBlock ≠ some q:=by
 intro q hq hv
 rcases h with ⟨_,⟨rfl,_⟩|⟨g,cap,cur,rfl,_,h1,_⟩⟩
 · cases hv
 · simp only [Value.ownBlock,Option.some.injEq] at hv
   subst hv
   rcases k with ⟨rfl,_⟩|⟨g',cap',cur',rfl,_,_,k1,_⟩
   · cases hq
   · simp only [blk,Value.ownBlock,Option.some.injEq] at hq
     subst hq
     rw [h1] at k1
     simp only [Option.some.injEq,Obj.cells.injEq] at k1
     exact hne k1.2.1
theorem dW {lo n sz : Nat} {e : TypeId} {w w' : World} {v : Value} {xs : List Value} (h : w.ownsRow lo e sz v n xs) (hb : Below w.heap.size w w') : w'.ownsRow lo e sz v n xs:=by
 rcases h with ⟨h0,h|⟨g,cap,cur,rfl,h1,h2,h3⟩⟩
 · exact ⟨h0,.inl h⟩
 · exact ⟨h0,.inr ⟨g,cap,cur,rfl,h1,(hb.block g (Array.getElem?_eq_some_iff.1 h2).1).trans h2,h3⟩⟩
theorem ii {lo n cap sz g : Nat} {e : TypeId} {w : World} {xs : List Value} (h : w.ownsRow lo e sz (.slice (some ⟨g,0,none⟩) n cap) n xs) {j : Nat} {u : Value} (hj : xs[j]? = some u) : w.cell? ⟨g,j,none⟩ = some u:=by
 have h1:=h.cells (g:=g) rfl j u hj
 have e : (⟨g,0,none⟩ : Addr).add j = ⟨g,j,none⟩:=by
  unfold Addr.add
  cases j with
  | zero => simp
  | succ j => simp
 rw [e] at h1
 exact h1
theorem sB : (Try.prog.info? 46).map (fun i=>(i.zero,i.size,i.bytes)) = some (some (.agg #[.slice none 0 0,.slice none 0 0,.int .i64 0]),3,56):=by kernel_rfl
theorem pf {w : World} {ops : Array Oper} {rest : List Oper} {o : Oper} {a : Act} {Q : Exit → Act → World → Prop} (hg : o.guard = none) (s x : Operand) (hop : o.op = .call { callee:=.builtin .append,args:=#[s,x],argTypes:=#[39,39] })
  {lo n gO cap : Nat} {cells : List Value} (hs : a.eval s = .slice (some ⟨gO,0,none⟩) n cap) (hown : w.ownsRow lo 46 3 (.slice (some ⟨gO,0,none⟩) n cap) n cells) (u0 u1 u2 : Value) (h0 : u0.oneCell' = true) (h1 : u1.oneCell' = true) (h2 : u2.oneCell' = true)
  (b c : Nat) (hx : a.eval x = .slice (some ⟨b,0,none⟩) 1 c) (k0 : w.cell? ⟨b,0,none⟩ = some u0) (k1 : w.cell? ⟨b,1,none⟩ = some u1) (k2 : w.cell? ⟨b,2,none⟩ = some u2) (hlen : n ≤ 1099511627776) (hbase : lo ≤ w.heap.size)
  (hK : ∀ gO' c' w',w'.ownsRow lo 46 3 (.slice (some ⟨gO',0,none⟩) (n + 1) c') (n + 1) (cells ++ [u0,u1,u2]) → w.grownBy w' (some gO) → wpList Try.prog ops Q rest (a.put o.dst (.slice (some ⟨gO',0,none⟩) (n + 1) c')) w') :
  wpList Try.prog ops Q (o :: rest) a w:=by
 obtain ⟨i0,hi',hz0,hz1,hz2⟩:=info_parts sB
 have hcells : ∀ (j : Nat) (u : Value),[u0,u1,u2][j]? = some u → w.cell? ((⟨b,0,none⟩ : Addr).add j) = some u:=by
  intro j u hj
  match j,hj with
  | 0, hj => simp at hj; subst hj; simpa [Addr.add] using k0
  | 1, hj => simp at hj; subst hj; simpa [Addr.add] using k1
  | 2, hj => simp at hj; subst hj; simpa [Addr.add] using k2
 have h1c : ∀ u ∈ [u0,u1,u2],u.oneCell' = true:=by
  intro u hu
  simp only [List.mem_cons,List.not_mem_nil,or_false] at hu
  rcases hu with rfl|rfl|rfl <;> assumption
 refine wpList_append_own _ hg s x 39 hop lo 46 i0 _ 3 56 Try.underlying39 hi' hz0 hz1 hz2 rfl (by decide) _ n cells hs hown ⟨b,0,none⟩ 1 c [u0,u1,u2] hx rfl hcells h1c (by unfold maxLen;omega) (by omega) hbase ?_
 intro v' w' q1 q2 _
 rcases id q1 with ⟨_,⟨_,e⟩|⟨g,cp,cur,e,_⟩⟩
 · omega
 · subst e
   exact hK g cp w' q1 q2
end Go.Proofs.Ytdkkhhfhdijfmaa
namespace Go.Proofs.Ytdkkhhfhdijfmaa
set_option linter.unusedVariables false
set_option linter.unusedSimpArgs false
open Go.RowKit
attribute [local go_sem ↓] Go.wp_at_zero Go.wp_at_succ
def tP (w : World) (x : St) (m : Int) (e : Ending) (w' : World) : Prop:=∃ s0 n0 c0 s1 n1 c1,e = .returned (.tuple #[.agg #[.slice s0 n0 c0,.slice s1 n1 c1,.int .i64 x.at_],.int .i64 m]) ∧ bd w.heap.size w'.heap.size w' (.slice s0 n0 c0) x.won ∧ bd w.heap.size w'.heap.size w' (.slice s1 n1 c1) x.region ∧ Below w.heap.size w w'
def vu (w : World) (x : St) (e : Ending) (w' : World) : Prop:=∃ s0 n0 c0 s1 n1 c1,e = .returned (.agg #[.slice s0 n0 c0,.slice s1 n1 c1,.int .i64 x.at_]) ∧ bd w.heap.size w'.heap.size w' (.slice s0 n0 c0) x.won ∧ bd w.heap.size w'.heap.size w' (.slice s1 n1 c1) x.region ∧ Below w.heap.size w w'
theorem sC {w : World} {v : Value} {s : St} (h : IsS w v s) : AVC φ00 h00 w (stA s) v:=by
 obtain ⟨x,y,rfl,h1,h2⟩:=h
 exact k7 (vs:=[x,y,.int .i64 s.at_]) (.cons (rL h1) (.cons (rL h2) (.cons (wq _ _) .nil)))
theorem qT {x : St} {w' : World} {φ' : Nat → Loc} {v : Value} {hp0 : Hp} {lo : Nat} {w0 : World} (H : HC φ' (bX hp0 [0,1] [.arr 2 .yes (.I x.won),.arr 2 .yes (.I x.region)]) lo w0 w')
  (l0 : bX hp0 [0,1] [Ent.arr 2 .yes (.I x.won),.arr 2 .yes (.I x.region)] 0 = some (.arr 2 .yes (.I x.won))) (l1 : bX hp0 [0,1] [Ent.arr 2 .yes (.I x.won),.arr 2 .yes (.I x.region)] 1 = some (.arr 2 .yes (.I x.region)))
  (ha : AVC φ' (bX hp0 [0,1] [.arr 2 .yes (.I x.won),.arr 2 .yes (.I x.region)]) w' (.agg [.sl 0,.sl 1,.c (.int .i64 x.at_)]) v) :
  ∃ s0 n0 c0 s1 n1 c1,v = .agg #[.slice s0 n0 c0,.slice s1 n1 c1,.int .i64 x.at_] ∧ bd lo w'.heap.size w' (.slice s0 n0 c0) x.won ∧ bd lo w'.heap.size w' (.slice s1 n1 c1) x.region:=by
 have o0:=jL (H.ent 0 _ l0) rfl fun b hb=>H.lo 0 b ⟨_,l0,(by show 1 < 2;decide)⟩ hb
 have o1:=jL (H.ent 1 _ l1) rfl fun b hb=>H.lo 1 b ⟨_,l1,(by show 1 < 2;decide)⟩ hb
 obtain ⟨xs,ex,hx⟩:=kZ ha
 match xs,hx with
 | [va, vb, vc], .cons a1 (.cons a2 (.cons a3 .nil)) =>
   have e1 : va = (φ' 0).val:=lm a1 l0
   have e2 : vb = (φ' 1).val:=lm a2 l1
   have e3 : vc = .int .i64 x.at_:=cL a3
   obtain ⟨s0,n0,c0,q0⟩:=iG (φ' 0)
   obtain ⟨s1,n1,c1,q1⟩:=iG (φ' 1)
   rw [q0] at o0 e1
   rw [q1] at o1 e2
   subst e1;subst e2;subst e3
   exact ⟨s0,n0,c0,s1,n1,c1,ex,o0,o1⟩
theorem qU {φ : Nat → Loc} {hp : Hp} {w : World} {l : List AV} {v : Value} (h : AVC φ hp w (.tup l) v) : ∃ vs : List Value,v = .tuple vs.toArray ∧ AVs φ hp w l vs:=by
 cases h with
 | tup hl h => exact ⟨_, rfl, .of hl h⟩
theorem ln (x : Value) (g : Pa) (hg : PaOk g) (w : World) (hP : IsP w x g) : Calls Try.prog 36 #[x] w (vu w (dE g)):=by
 refine ((lk g hg).2 φ00 h00 w [x] (fun _ _ h=>by cases h) (qk w) (AVs.cons (l7 hP) .nil).at.1 (AVs.cons (l7 hP) .nil).at.2).mono fun e w' ⟨v,he,ho⟩=>?_
 obtain ⟨φ',H,_,ha⟩:=ho [0,1] rfl (by decide) (fun _ _=>rfl)
 obtain ⟨s0,n0,c0,s1,n1,c1,e',h1,h2⟩:=qT (w0:=w) H rfl rfl ha
 exact ⟨s0,n0,c0,s1,n1,c1,by rw [he,e'],h1,h2,H.fr⟩
theorem jY (x y : Value) (g : Pa) (hg : PaOk g) (s : St) (hO : StOk g s) (h0 : 0 ≤ s.at_) (w : World) (hP : IsP w x g) (hS : IsS w y s) : Calls Try.prog 37 #[x,y] w (tP w (cK g s).1 (cK g s).2):=by
 refine ((jX g hg s hO h0).2 φ00 h00 w [x,y] (fun _ _ h=>by cases h) (qk w) (AVs.cons (l7 hP) (.cons (sC hS) .nil)).at.1 (AVs.cons (l7 hP) (.cons (sC hS) .nil)).at.2).mono fun e w' ⟨v,he,ho⟩=>?_
 obtain ⟨φ',H,_,ha⟩:=ho [0,1] rfl (by decide) (fun _ _=>rfl)
 obtain ⟨vs,e1,hv⟩:=qU ha
 match vs,hv with
 | [a, b], .cons a1 (.cons a2 .nil) =>
   have e3 : b = .int .i64 (cK g s).2:=cL a2
   subst e3
   obtain ⟨s0,n0,c0,s1,n1,c1,e',h1,h2⟩:=qT (w0:=w) H rfl rfl a1
   subst e'
   exact ⟨s0,n0,c0,s1,n1,c1,by rw [he,e1],h1,h2,H.fr⟩
end Go.Proofs.Ytdkkhhfhdijfmaa
namespace Go.Proofs.Ytdkkhhfhdijfmaa
set_option linter.unusedVariables false
set_option linter.unusedSimpArgs false
open Go.RowKit
attribute [local go_sem ↓] Go.wp_at_zero Go.wp_at_succ
def vv : Value → Nat
 | .slice _ n _ => n
 | _ => 0
theorem nz {lo n cap sz g B : Nat} {e T : TypeId} {w : World} {xs cs : List Value} (h : w.ownsRow lo e sz (.slice (some ⟨g,0,none⟩) n cap) n xs) (hB : Blk w B cs T) (hne : e ≠ T) : g ≠ B:=by
 rintro rfl
 rcases h with ⟨_,⟨e1,_⟩|⟨g',cap',cur,e1,_,h1,_⟩⟩
 · cases e1
 · simp only [Value.slice.injEq,Option.some.injEq,Addr.mk.injEq,and_true,true_and] at e1
   obtain ⟨rfl,-⟩:=e1
   have h2 : w.heap[g]? = some (.cells cs.toArray T (0,0)):=hB
   rw [h1] at h2
   simp only [Option.some.injEq,Obj.cells.injEq] at h2
   exact hne h2.2.1
theorem tQ {lo n cap sz g : Nat} {e : TypeId} {w : World} {xs : List Value} (h : w.ownsRow lo e sz (.slice (some ⟨g,0,none⟩) n cap) n xs) : lo ≤ g:=by
 rcases h with ⟨_,⟨e1,_⟩|⟨g',cap',cur,e1,hlo,_⟩⟩
 · cases e1
 · simp only [Value.slice.injEq,Option.some.injEq,Addr.mk.injEq,and_true,true_and] at e1
   obtain ⟨rfl,-⟩:=e1
   exact hlo
def se (w : World) (g : Pa) (e : Ending) (w' : World) : Prop:=∃ (gO cap : Nat) (pre : List Value) (s0 : Option Addr) (n0 c0 : Nat) (vb : Value),e = .returned (.slice (some ⟨gO,0,none⟩) (nS g + 1) cap) ∧
 w'.ownsRow w.heap.size 46 3 (.slice (some ⟨gO,0,none⟩) (nS g + 1) cap) (nS g + 1) (pre ++ [.slice s0 n0 c0,vb,.int .i64 (itS g (nS g)).at_]) ∧ pre.length = nS g * 3 ∧ bd w.heap.size w'.heap.size w' (.slice s0 n0 c0) (itS g (nS g)).won ∧ Below w.heap.size w w'
set_option maxRecDepth 100000 in
set_option maxHeartbeats 1000000 in
theorem nA (x : Value) (g : Pa) (hs : cA g) (w : World) (hP : IsP w x g) : Calls Try.prog 26 #[x] w (se w g):=by
 have hP0:=hP
 obtain ⟨_,_,_,rfl,⟨s1,n1,c1,rfl,h1⟩,⟨s2,n2,c2,rfl,h2⟩,⟨s3,n3,c3,rfl,h3⟩⟩:=hP
 have HS:=Lib.hid hs
 clear hs
 obtain ⟨i0,hi,hz0,hz1,hz2⟩:=info_parts sB
 go_enter Try.func26,Try.ntmps26
 go_wp2_with fail
 have hB : Blk (w.alloc (.cells #[.slice s1 n1 c1,.slice s2 n2 c2,.slice s3 n3 c3] 32)) w.heap.size [.slice s1 n1 c1,.slice s2 n2 c2,.slice s3 n3 c3] 32:=eo _ _ _
 have hbw : Below w.heap.size w (w.alloc (.cells #[.slice s1 n1 c1,.slice s2 n2 c2,.slice s3 n3 c3] 32)):=aO _ _
 have hz : (w.alloc (.cells #[.slice s1 n1 c1,.slice s2 n2 c2,.slice s3 n3 c3] 32)).heap.size = w.heap.size + 1:=by simp
 generalize w.alloc (.cells #[.slice s1 n1 c1,.slice s2 n2 c2,.slice s3 n3 c3] 32) = w1 at *
 have b0:=hB.cell 0 rfl
 have b1:=hB.cell 1 rfl
 have b2:=hB.cell 2 rfl
 go_wp2_with (go_at_call 36;refine (ln _ _ HS.out.1 _ (hP0.below hbw)).mono ?_;rintro e w2 ⟨t0,m0,d0,t1,m1,d1,rfl,hw2,hr2,hb2⟩;have hz2:=hb2.size)
 have hbA:=aO w2 (.cells #[.slice t0 m0 d0,.slice t1 m1 d1,.int .i64 (dE g).at_] 46)
 have hB2:=(hB.below hb2).below hbA
 have hbx : Below w.heap.size w (w2.alloc (.cells #[.slice t0 m0 d0,.slice t1 m1 d1,.int .i64 (dE g).at_] 46)):=hbw.trans ((hb2.trans (hbA.mono hz2)).mono hbw.size)
 have hrow : World.ownsRow (w2.alloc (.cells #[.slice t0 m0 d0,.slice t1 m1 d1,.int .i64 (dE g).at_] 46)) w.heap.size 46 3 (.slice (some ⟨w2.heap.size,0,none⟩) 1 1) 1 ([] ++ [.slice t0 m0 d0,.slice t1 m1 d1,.int .i64 (itS g 0).at_]) :=
  ⟨rfl,.inr ⟨w2.heap.size,1,#[.slice t0 m0 d0,.slice t1 m1 d1,.int .i64 (dE g).at_],rfl,by omega,heap_alloc_new _ _,by omega,by decide,rfl,rfl⟩⟩
 have hw : bd w.heap.size (w2.alloc (.cells #[.slice t0 m0 d0,.slice t1 m1 d1,.int .i64 (dE g).at_] 46)).heap.size (w2.alloc (.cells #[.slice t0 m0 d0,.slice t1 m1 d1,.int .i64 (dE g).at_] 46)) (.slice t0 m0 d0) (itS g 0).won:=bd.mono (aX.top (aX.below hw2 hbA)) (by omega) (Nat.le_refl _)
 have hr : bd w.heap.size (w2.alloc (.cells #[.slice t0 m0 d0,.slice t1 m1 d1,.int .i64 (dE g).at_] 46)).heap.size (w2.alloc (.cells #[.slice t0 m0 d0,.slice t1 m1 d1,.int .i64 (dE g).at_] 46)) (.slice t1 m1 d1) (itS g 0).region:=bd.mono (aX.top (aX.below hr2 hbA)) (by omega) (Nat.le_refl _)
 have hsz : w.heap.size < (w2.alloc (.cells #[.slice t0 m0 d0,.slice t1 m1 d1,.int .i64 (dE g).at_] 46)).heap.size:=by simp;omega
 clear hb2 hbA hbw hB hw2 hr2 b0 b1 b2
 generalize (w2.alloc (.cells #[.slice t0 m0 d0,.slice t1 m1 d1,.int .i64 (dE g).at_] 46)) = w3 at *
 go_loopw [3] (fun q wr=>∃ (k gO cap : Nat) (pre : List Value) (t0 : Option Addr) (m0 d0 : Nat) (t1 : Option Addr) (m1 d1 : Nat),k ≤ nS g ∧ q = .slice (some ⟨gO,0,none⟩) (k + 1) cap ∧ wr.ownsRow w.heap.size 46 3 (.slice (some ⟨gO,0,none⟩) (k + 1) cap) (k + 1) (pre ++ [.slice t0 m0 d0,.slice t1 m1 d1,.int .i64 (itS g k).at_]) ∧ pre.length = k * 3 ∧
   bd w.heap.size wr.heap.size wr (.slice t0 m0 d0) (itS g k).won ∧ bd w.heap.size wr.heap.size wr (.slice t1 m1 d1) (itS g k).region ∧ Blk wr w.heap.size [.slice s1 n1 c1,.slice s2 n2 c2,.slice s3 n3 c3] 32 ∧ Below w.heap.size w wr ∧ w.heap.size < wr.heap.size) (fun q _=>nS g + 1 - vv q)
 case atStart=>exact ⟨0,_,_,[],_,_,_,_,_,_,Nat.zero_le _,rfl,hrow,rfl,hw,hr,hB2,hbx,hsz⟩
 case round =>
  clear hrow hw hr hB2 hbx hsz
  obtain ⟨k,gO,cap,pre,t0,m0,d0,t1,m1,d1,hk,rfl,hrow,hpre,hw,hr,hB,hb,hsz⟩:=hrel
  have b0:=hB.cell 0 rfl
  have b1:=hB.cell 1 rfl
  have b2:=hB.cell 2 rfl
  have q0:=ii hrow (j:=k * 3) (u:=.slice t0 m0 d0) (by rw [List.getElem?_append_right (by omega),hpre,Nat.sub_self];rfl)
  have q1:=ii hrow (j:=k * 3 + 1) (u:=.slice t1 m1 d1) (by rw [List.getElem?_append_right (by omega),hpre,Nat.add_sub_cancel_left];rfl)
  have q2:=ii hrow (j:=k * 3 + 2) (u:=.int .i64 (itS g k).at_) (by rw [List.getElem?_append_right (by omega),hpre,Nat.add_sub_cancel_left];rfl)
  have hn30:=(kv HS.out).1
  by_cases hkl : k < nS g
  · have hat:=(kv HS.out).2.2 k hkl
    go_wp2_with fail
    have hbA:=aO wr (.cells #[.slice t0 m0 d0,.slice t1 m1 d1,.int .i64 (itS g k).at_] 46)
    have hzA : (wr.alloc (.cells #[.slice t0 m0 d0,.slice t1 m1 d1,.int .i64 (itS g k).at_] 46)).heap.size = wr.heap.size + 1:=by simp
    have hS : IsS (wr.alloc (.cells #[.slice t0 m0 d0,.slice t1 m1 d1,.int .i64 (itS g k).at_] 46)) (.agg #[.slice t0 m0 d0,.slice t1 m1 d1,.int .i64 (itS g k).at_]) (itS g k):=⟨_,_,rfl,(bd.is (aX.below hw hbA)),(bd.is (aX.below hr hbA))⟩
    refine (jY _ _ _ HS.out.1 (itS g k) (jJ HS.out hk) hat _ ((hP0.below hb).below hbA) hS).mono ?_
    rintro e w5 ⟨p0,y0,r0,p1,y1,r1,rfl,hw5,hr5,hb5⟩
    have hB5 : Below wr.heap.size wr w5:=hbA.trans (hb5.mono (by omega))
    have hz5:=hB5.size
    have hbx5:=hb.trans (hB5.mono hb.size)
    have hrow5:=dW hrow hB5
    have hBx5:=hB.below hB5
    clear hS b0 b1 b2 q0 q1 q2 hbA
    go_wp2_with (refine pf (by rfl) _ _ (by rfl) (by rfl) (dW (dW hrow5 (aO _ _)) (aO _ _)) (.slice p0 y0 r0) (.slice p1 y1 r1) (.int .i64 (cK g (itS g k)).1.at_) rfl rfl rfl _ _ (by rfl) (by simp) (by simp) (by simp) (by omega) (by simp;omega) ?_;intro gO' c' w7 h7 g7)
    have hgl:=tQ hrow5
    have hgb:=nz hrow5 hBx5 (by decide)
    have hz7:=g7.size
    have hA1:=aO w5 (.cells #[.slice p0 y0 r0,.slice p1 y1 r1,.int .i64 (cK g (itS g k)).1.at_] 46)
    have hA2:=aO (w5.alloc (.cells #[.slice p0 y0 r0,.slice p1 y1 r1,.int .i64 (cK g (itS g k)).1.at_] 46)) (.cells #[.slice p0 y0 r0,.slice p1 y1 r1,.int .i64 (cK g (itS g k)).1.at_] 46)
    have hrow6:=dW (dW hrow5 hA1) hA2
    have keep : ∀ (v : Value) (xs : List Int) (lo : Nat),w.heap.size ≤ lo → bd lo w5.heap.size w5 v xs → bd w.heap.size w7.heap.size w7 v xs:=by
     intro v xs lo hlo h
     have h6:=aX.top (aX.below (aX.top (aX.below h hA1)) hA2)
     have hne:=tO hrow6 h6 (by decide)
     exact bd.mono (aX.top (aX.keep h6 (w':=w7) fun q hq=>g7.block q (aX.lt h6 q hq).2.2 fun e=>hne q hq e.symm)) hlo (Nat.le_refl _)
    have hbz : Below w.heap.size w w7:=Below.grown (hbx5.trans ((hA1.trans (hA2.mono (by simp))).mono hbx5.size)) g7 (by simp;omega) fun q hq=>by cases hq;exact hgl
    have hB7 : Blk w7 w.heap.size [.slice s1 n1 c1,.slice s2 n2 c2,.slice s3 n3 c3] 32:=by
     have h:=(hBx5.below hA1).below hA2
     exact (g7.block _ h.lt fun e=>hgb (by injection e with e;exact e.symm)).trans h
    have hlz : w.heap.size ≤ (wr.alloc (.cells #[.slice t0 m0 d0,.slice t1 m1 d1,.int .i64 (itS g k).at_] 46)).heap.size:=by omega
    have hk0:=keep _ _ _ hlz hw5
    have hk1:=keep _ _ _ hlz hr5
    go_roundw
    case rel=>exact ⟨k + 1,gO',c',pre ++ [.slice t0 m0 d0,.slice t1 m1 d1,.int .i64 (itS g k).at_],p0,y0,r0,p1,y1,r1,by omega,rfl,h7,by simp;omega,hk0,hk1,hB7,hbz,by have:=hbz.size;(try simp only [World.size_alloc] at hz7);omega⟩
    case measure=>simp [vv];omega
  · have e : k = nS g:=by omega
    subst e
    have hat:=qQ HS.out
    rw [hat] at q2
    go_wp2_with fail
    go_ret
    have hbA:=aO wr (.cells #[.slice t0 m0 d0,.slice t1 m1 d1,.int .i64 (-1)] 46)
    exact ⟨gO,cap,pre,t0,m0,d0,_,rfl,dW hrow hbA,hpre,aX.top (aX.below hw hbA),hb.trans (hbA.mono hb.size)⟩
end Go.Proofs.Ytdkkhhfhdijfmaa
