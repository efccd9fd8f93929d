/-
  What worthsOf calls, in the old words; a made list of worths.
-/
import Derived.Test.YtlodllmpndflcaaZoZC
import Derived.Test.YtlodllmpndflcaaZoI6
import Derived.Test.YtlodllmpndflcaaZoM3
namespace Go.Proofs.Ytlodllmpndflcaa
set_option linter.unusedVariables false
set_option linter.unusedSimpArgs false
open Go.RowKit
attribute [local go_sem ↓] Go.wp_at_zero Go.wp_at_succ
theorem tH : (Try.prog.info? 51).map (fun i=>(i.zero,i.size,i.bytes)) = some (some (.agg #[.int .i64 0,.slice none 0 0,.int .i64 0]),3,40):=by kernel_rfl
def zWt : Wt:=⟨0,[],0⟩
theorem gF (n j : Nat) (hj : j < n * 3) : (madeCells #[Value.int .i64 0,.slice none 0 0,.int .i64 0] (n * 3)).toList[j]? = some (#[Value.int .i64 0,.slice none 0 0,.int .i64 0][j % 3]!):=by
 simp [madeCells,hj]
theorem lP (n u : Nat) (hu : u < n) : (madeCells #[Value.int .i64 0,.slice none 0 0,.int .i64 0] (n * 3)).toList[u * 3 + 1]? = some (.slice none 0 0):=by
 rw [gF n _ (by omega),show (u * 3 + 1) % 3 = 1 by omega];rfl
theorem WgL.made {lo gO n cap : Nat} {w : World} (hr : w.ownsRow lo 51 3 (.slice (some ⟨gO,0,none⟩) n cap) n (madeCells #[Value.int .i64 0,.slice none 0 0,.int .i64 0] (n * 3)).toList) (hg : gO < w.heap.size) : WgL lo w.heap.size w gO n cap (madeCells #[Value.int .i64 0,.slice none 0 0,.int .i64 0] (n * 3)).toList (fun _=>zWt):=by
 refine ⟨hr,hg,fun k hk=>?_,fun k hk=>⟨none,0,0,lP n k hk,.inl ⟨rfl,rfl⟩⟩,fun k hk=>?_,fun i j u v g hij hu hv hb=>?_⟩
 · rw [gF n _ (by omega),show k * 3 % 3 = 0 by omega];rfl
 · rw [gF n _ (by omega),show (k * 3 + 2) % 3 = 2 by omega];rfl
 · have hl : i < n * 3:=by
    have h1:=(List.getElem?_eq_some_iff.1 hu).1
    simpa [madeCells] using h1
   rw [gF n _ hl] at hu
   injection hu with hu
   rcases (show i % 3 = 0 ∨ i % 3 = 1 ∨ i % 3 = 2 by omega) with e|e|e <;> (rw [e] at hu;subst hu;cases hb)
theorem qJ (x : Value) (g : Pa) (hg : PaOk g) (hr : cF g ≤ 4096) (w : World) (hP : IsP w x g) : Calls Try.prog 22 #[x] w fun e w'=>e = .returned (.int .i64 (cF g : Nat)) ∧ Below w.heap.size w w':=by
 have h:=nE g hg
 rw [fK hr] at h
 exact rN (vs:=[x]) h (.cons (oy hP) .nil)
theorem qK (x : Value) (a : Ar) (hl : a.own.length ≤ 1048576) (w : World) (hA : IsA w x a) : Calls Try.prog 39 #[x] w (ph w (noP a.own.length)) :=
 r7 (vs:=[x]) (qm a hl) rfl (.cons (vf hA) .nil)
def qL (w : World) (v : Value) (S L : List Int) : Prop:=∃ s n c s' n' c',v = .agg #[.slice s n c,.slice s' n' c'] ∧ cy w s n c S ∧ cy w s' n' c' L
theorem qL.below {w w' : World} {v : Value} {S L : List Int} (h : qL w v S L) (hb : Below w.heap.size w w') : qL w' v S L:=let ⟨s,n,c,s',n',c',e,h1,h2⟩:=h;⟨s,n,c,s',n',c',e,h1.below hb,h2.below hb⟩
theorem qM (x : Value) (n : Nat) (hn : n ≤ 256) (wl : List Int) (hl : wl.length = n) (f : Nat → Nat) (hf : ∀ x,x < n → gi wl x = (f x : Nat) ∧ f x < n) (v : Nat) (hv : v < n) (w : World) (hI : IsI w x wl) : Calls Try.prog 41 #[x,.int .i64 (v : Nat)] w fun e w'=>∃ p,e = .returned p ∧ qL w' p (eF (itF f v) n) (cT (itF f v) n) ∧ Below w.heap.size w w':=by
 refine ((oP n hn wl hl f hf v hv).2 φ00 h00 w [x,.int .i64 (v : Nat)] (fun _ _ h=>by cases h) (ox w) (AVs.cons (iu hI) (.cons (mz _ _) .nil)).at.1 (AVs.cons (iu hI) (.cons (mz _ _) .nil)).at.2).mono fun e w' ⟨p,he,ho⟩=>?_
 obtain ⟨φ',H,_,ha⟩:=ho [] rfl List.nodup_nil (fun _ h=>by cases h)
 refine ⟨p,he,?_,H.fr⟩
 obtain ⟨vs,e',h'⟩:=iF ha
 subst e'
 match vs,h' with
 | [a, b], .cons h1 (.cons h2 .nil) =>
   obtain ⟨s,n,c,rfl,q1⟩:=i9 (cJ h1)
   obtain ⟨s',n',c',rfl,q2⟩:=i9 (cJ h2)
   exact ⟨s,n,c,s',n',c',rfl,q1,q2⟩
theorem oS (x y : Value) (g : Pa) (hs : dU g) {f : Nat → Nat} (hf : ∀ x,x < g.prio.length → f x < g.prio.length) {v : Nat} (hv : v < g.prio.length) (w : World) (hP : IsP w x g) (hY : qL w y (eF (itF f v) g.prio.length) (cT (itF f v) g.prio.length)) : Calls Try.prog 40 #[x,y] w fun e w'=>∃ s m c,e = .returned (.agg #[.int .i64 (wtF g f v).hd,.slice s m c,.int .i64 (wtF g f v).wy]) ∧ bj w.heap.size w'.heap.size w' (.slice s m c) (wtF g f v).ov ∧ Below w.heap.size w w':=by
 obtain ⟨s,n,c,s',n',c',rfl,h1,h2⟩:=hY
 have hv' : AVs φ00 h00 w [paA g,.agg [.c (.I (eF (itF f v) g.prio.length)),.c (.I (cT (itF f v) g.prio.length))]] [x,.agg #[.slice s n c,.slice s' n' c']] :=
  .cons (oy hP) (.cons (gy (vs:=[.slice s n c,.slice s' n' c']) (.cons (iu h1.is) (.cons (iu h2.is) .nil))) .nil)
 refine ((oR hs hf hv).2 φ00 h00 w _ (fun _ _ h=>by cases h) (ox w) hv'.at.1 hv'.at.2).mono fun e w' ⟨p,he,ho⟩=>?_
 obtain ⟨φ',H,_,ha⟩:=ho [0] rfl (by decide) (fun _ _=>rfl)
 generalize wtF g f v = a at *
 have l0 : bQ (aY h00 []) [0] [Ent.arr 2 .may (.I a.ov)] 0 = some (.arr 2 .may (.I a.ov)):=rfl
 have o0:=lO (H.ent 0 _ l0) rfl fun b hb=>H.lo 0 b ⟨_,l0,(by show 1 < 2;decide)⟩ hb
 obtain ⟨vs,e',h'⟩:=iF ha
 subst e'
 match vs,h' with
 | [a1, a2, a3], .cons k1 (.cons k2 (.cons k3 .nil)) =>
   obtain rfl:=ce k1
   obtain rfl:=ce k3
   have e2 : a2 = (φ' 0).val:=kN k2 l0
   obtain ⟨s0,n0,c0,q0⟩:=j4 (φ' 0)
   rw [q0] at o0 e2
   subst e2
   exact ⟨s0,n0,c0,he,o0,H.fr⟩
theorem lQ (x y z : Value) (g : Pa) (hg : PaOk g) (a b : Wt) (ha : WtOk g a) (hb : WtOk g b) (w : World) (hP : IsP w x g) (hA : jh w y a) (hB : jh w z b) : Calls Try.prog 42 #[x,y,z] w fun e w'=>e = .returned (.bool (tf (d6 g a b))) ∧ Below w.heap.size w w':=by
 obtain ⟨s,n,c,rfl,h1⟩:=hA
 obtain ⟨s',n',c',rfl,h2⟩:=hB
 exact kE (vs:=[x,_,_]) (oM g hg a b ha hb) (.cons (oy hP) (.cons (gy (vs:=[.int .i64 a.hd,.slice s n c,.int .i64 a.wy]) (.cons (mz _ _) (.cons (iu h1.is) (.cons (mz _ _) .nil)))) (.cons (gy (vs:=[.int .i64 b.hd,.slice s' n' c',.int .i64 b.wy]) (.cons (mz _ _) (.cons (iu h2.is) (.cons (mz _ _) .nil)))) .nil)))
end Go.Proofs.Ytlodllmpndflcaa
