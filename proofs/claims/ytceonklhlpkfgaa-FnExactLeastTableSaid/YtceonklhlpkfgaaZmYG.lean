/-
  LeastTable of the program, owned: the walk.
-/
import Derived.Test.YtceonklhlpkfgaaZmM6
import Derived.Test.YtceonklhlpkfgaaZmX8
import Derived.Test.YtceonklhlpkfgaaZmM7
import Derived.Test.YtceonklhlpkfgaaZmM3
import Derived.Test.YtceonklhlpkfgaaZmM8
namespace Go.Proofs.Ytceonklhlpkfgaa
set_option linter.unusedVariables false
set_option linter.unusedSimpArgs false
open Go.RowKit
attribute [local go_sem ↓] Go.wp_at_zero Go.wp_at_succ
theorem l2 (x y : Value) (a b : List Int) (w : World) (hx : IsI w x a) (hy : IsI w y b) (ha : a.length ≤ 1048576) (hb : b.length ≤ 1048576) : Calls Try.prog 33 #[x,y] w fun e w'=>e = .returned (.int .i64 (MS.cmp a b)) ∧ Below w.heap.size w w' :=
 lQ (vs:=[x,y]) (eS a b ha hb) (.cons (nW hx) (.cons (nW hy) .nil))
def oA (w : World) (sa : Option Addr) (n : Nat) (rs : List (List Int)) (xs : List Int) (e : Ending) (w' : World) : Prop :=
 ∃ (j b o : Nat) (s' : Option Addr) (l' c' : Nat),j < n ∧ gr rs j = xs ∧ sa = some ⟨b,o,none⟩ ∧ w.cell? ⟨b,o + j,none⟩ = some (.slice s' l' c') ∧ e = .returned (.slice s' l' c') ∧ Below w.heap.size w w'
set_option maxRecDepth 100000 in
set_option maxHeartbeats 1000000 in
theorem mQ (sa : Option Addr) (n c : Nat) (rs : List (List Int)) (w : World) (hR : Rws w sa n c rs) (h0 : 0 < n) (hr : ∀ i,i < n → (gr rs i).length ≤ 1048576) :
  Calls Try.prog 51 #[.slice sa n c,.func (.func 33) #[] #[]] w (oA w sa n rs (MS.bst true (gr rs) n)):=by
 have hmax:=hR.max
 have HL:=Lib.hid hR.len
 have HR:=Lib.hid hr
 clear hr
 obtain ⟨b,o,rfl,hbl,A,L,C,hc⟩:=hR.get h0
 have HC:=Lib.hid hc
 obtain ⟨hc0,hd0⟩:=hc 0 h0
 rw [Nat.add_zero] at hc0
 clear hc
 go_enter Try.func51,Try.ntmps51
 go_wp2_with fail
 have hbw : Below w.heap.size w w:=Below.refl _ _
 go_loopw [5,6] (fun v i wr=>∃ (k j : Nat),j < k ∧ k ≤ n ∧ i = .int .i64 k ∧ v = .slice (A j) (L j) (C j) ∧ gr rs j = MS.bst true (gr rs) k ∧ Below w.heap.size w wr) (fun _ i _=>n - (intOf i).toNat)
 case atStart=>exact ⟨1,0,by omega,by omega,rfl,rfl,(MS.bst_yes (.inl rfl)).symm,hbw⟩
 case round =>
  clear hbw
  obtain ⟨k,j,hjk,hk,rfl,rfl,hg,hb⟩:=hrel
  have HG:=Lib.hid hg
  clear hg
  by_cases hlt : k < n
  · obtain ⟨hck,hdk⟩:=HC.out k hlt
    obtain ⟨hcj,hdj⟩:=HC.out j (by omega)
    have hcw:=(b9 hb).1 b (o + k) hbl
    rw [hck] at hcw
    clear hck hcj
    have hIk:=hdk.below hb
    have hIj:=hdj.below hb
    have hlk:=HR.out k hlt
    have hlj:=HR.out j (by omega)
    by_cases hm : MS.cmp (gr rs k) (gr rs j) < 0
    · have HM:=Lib.hid (ln (L:=gr rs) (k:=k) (by rw [← HG.out];exact MS.cmp_lt.1 hm))
      go_wp2_with (go_at_call 33;refine (l2 _ _ _ _ _ hIk.is hIj.is hlk hlj).mono ?_;rintro e w5 ⟨rfl,hb5⟩;have hcw5:=al hcw hb5)
      go_roundw
      case rel=>exact ⟨k + 1,k,by omega,by omega,by go_num,rfl,HM.out.symm,hb.trans (hb5.mono hb.size)⟩
      case measure=>simp [intOf];omega
    · have HM:=Lib.hid (lq (L:=gr rs) (k:=k) (by omega) fun h'=>hm (MS.cmp_lt.2 (by rw [HG.out];exact h')))
      go_wp2_with (go_at_call 33;refine (l2 _ _ _ _ _ hIk.is hIj.is hlk hlj).mono ?_;rintro e w5 ⟨rfl,hb5⟩)
      go_roundw
      case rel=>exact ⟨k + 1,j,by omega,by omega,by go_num,rfl,HG.out.trans HM.out.symm,hb.trans (hb5.mono hb.size)⟩
      case measure=>simp [intOf];omega
  · have e : k = n:=by omega
    subst e
    obtain ⟨hcj,_⟩:=HC.out j (by omega)
    go_wp2_with fail
    go_ret
    exact ⟨j,b,o,A j,L j,C j,hjk,HG.out,rfl,hcj,rfl,hb⟩
set_option maxRecDepth 100000 in
set_option maxHeartbeats 1000000 in
theorem mR (sa : Option Addr) (n c : Nat) (rs : List (List Int)) (w : World) (hR : Rws w sa n c rs) (h0 : 0 < n) (hr : ∀ i,i < n → (gr rs i).length ≤ 1048576) :
  Calls Try.prog 52 #[.slice sa n c,.func (.func 33) #[] #[]] w (oA w sa n rs (MS.bst false (gr rs) n)):=by
 have hmax:=hR.max
 have HL:=Lib.hid hR.len
 have HR:=Lib.hid hr
 clear hr
 obtain ⟨b,o,rfl,hbl,A,L,C,hc⟩:=hR.get h0
 have HC:=Lib.hid hc
 obtain ⟨hc0,hd0⟩:=hc 0 h0
 rw [Nat.add_zero] at hc0
 clear hc
 go_enter Try.func52,Try.ntmps52
 go_wp2_with fail
 have hbw : Below w.heap.size w w:=Below.refl _ _
 go_loopw [5,6] (fun v i wr=>∃ (k j : Nat),j < k ∧ k ≤ n ∧ i = .int .i64 k ∧ v = .slice (A j) (L j) (C j) ∧ gr rs j = MS.bst false (gr rs) k ∧ Below w.heap.size w wr) (fun _ i _=>n - (intOf i).toNat)
 case atStart=>exact ⟨1,0,by omega,by omega,rfl,rfl,(MS.bst_yes (.inl rfl)).symm,hbw⟩
 case round =>
  clear hbw
  obtain ⟨k,j,hjk,hk,rfl,rfl,hg,hb⟩:=hrel
  have HG:=Lib.hid hg
  clear hg
  by_cases hlt : k < n
  · obtain ⟨hck,hdk⟩:=HC.out k hlt
    obtain ⟨hcj,hdj⟩:=HC.out j (by omega)
    have hcw:=(b9 hb).1 b (o + k) hbl
    rw [hck] at hcw
    clear hck hcj
    have hIk:=hdk.below hb
    have hIj:=hdj.below hb
    have hlk:=HR.out k hlt
    have hlj:=HR.out j (by omega)
    by_cases hm : 0 < MS.cmp (gr rs k) (gr rs j)
    · have HM:=Lib.hid (lp (L:=gr rs) (k:=k) (by rw [← HG.out];exact MS.cmp_gt.1 hm))
      go_wp2_with (go_at_call 33;refine (l2 _ _ _ _ _ hIk.is hIj.is hlk hlj).mono ?_;rintro e w5 ⟨rfl,hb5⟩;have hcw5:=al hcw hb5)
      go_roundw
      case rel=>exact ⟨k + 1,k,by omega,by omega,by go_num,rfl,HM.out.symm,hb.trans (hb5.mono hb.size)⟩
      case measure=>simp [intOf];omega
    · have HM:=Lib.hid (lr (L:=gr rs) (k:=k) (by omega) fun h'=>hm (MS.cmp_gt.2 (by rw [HG.out];exact h')))
      go_wp2_with (go_at_call 33;refine (l2 _ _ _ _ _ hIk.is hIj.is hlk hlj).mono ?_;rintro e w5 ⟨rfl,hb5⟩)
      go_roundw
      case rel=>exact ⟨k + 1,j,by omega,by omega,by go_num,rfl,HG.out.trans HM.out.symm,hb.trans (hb5.mono hb.size)⟩
      case measure=>simp [intOf];omega
  · have e : k = n:=by omega
    subst e
    obtain ⟨hcj,_⟩:=HC.out j (by omega)
    go_wp2_with fail
    go_ret
    exact ⟨j,b,o,A j,L j,C j,hjk,HG.out,rfl,hcj,rfl,hb⟩
end Go.Proofs.Ytceonklhlpkfgaa
namespace Go.Proofs.Ytceonklhlpkfgaa
set_option linter.unusedVariables false
set_option linter.unusedSimpArgs false
open Go.RowKit
attribute [local go_sem ↓] Go.wp_at_zero Go.wp_at_succ
theorem jE {w : World} (ty : TypeId) {lo hi : Nat} {v : Value} {xss : List (List Int)} {vs : List Value} (hown : aQ lo hi w v xss vs) {su : Option Addr} {nu cu : Nat} {row : List Int} (hu : aA lo w.heap.size w (.slice su nu cu) row) (hne : ∀ g,blk (.slice su nu cu) = some g → ¬ g ∈ vs.filterMap blk)
  (b c : Nat) (hcell : w.cell? ⟨b,0,none⟩ = some (.slice su nu cu)) (hlen : xss.length ≤ 1048576) (hbase : lo ≤ w.heap.size) :
  ∃ sa c' w',(Builtin.append_ #[23,23] ty #[v,.slice (some ⟨b,0,none⟩) 1 c]).run Try.prog w = .ok (.slice sa (xss.length + 1) c') w' ∧ aQ lo w'.heap.size w' (.slice sa (xss.length + 1) c') (xss ++ [row]) (vs ++ [.slice su nu cu]) ∧ w.grownBy w' (blk v):=by
 obtain ⟨i0,hi',hz0,hz1,hz2⟩:=info_parts Try.infoS
 have hcells : ∀ (j : Nat) (u : Value),[Value.slice su nu cu][j]? = some u → w.cell? ((⟨b,0,none⟩ : Addr).add j) = some u:=by
  intro j u hj
  match j,hj with
  | 0, hj => simp at hj; subst hj; simpa [Addr.add] using hcell
 have h1c : ∀ u ∈ [Value.slice su nu cu],u.oneCell' = true:=by intro u hu;simp at hu;subst hu;rfl
 obtain ⟨v',w',hrun,h1,h2,_⟩:=run_append_own (P:=Try.prog) w lo 23 ty 22 i0 (.slice none 0 0) 1 24 Try.underlying23 hi' hz0 hz1 hz2 rfl (by decide) v xss.length vs (by have:=aC.row hown.2.1;rwa [hown.1] at this) ⟨b,0,none⟩ 1 c [.slice su nu cu] rfl hcells h1c (by unfold maxLen;omega) (by omega) hbase
 have hV : aC 22 lo w'.heap.size w' v' (vs ++ [.slice su nu cu]):=bL h1
 have hR : aQ lo w'.heap.size w' v' (xss ++ [row]) (vs ++ [.slice su nu cu]):=by
  refine ⟨by simp [hown.1],hV,fun k hk=>?_,?_⟩
  · rw [ma,jP,hown.1]
    simp only [List.length_append,List.length_singleton] at hk
    by_cases e : k < xss.length
    · rw [if_pos e,if_pos e]
      have hk':=hown.2.2.1 k e
      have hm : ∀ g,blk (vs.getD k (.slice none 0 0)) = some g → blk v ≠ some g:=gE hown hk'
      exact ((hk'.grown h2 (fun g hg' e'=>hm g hg' (by rw [← e']))).top).mono (Nat.le_refl _) (Nat.le_refl _)
    · have e2 : k = xss.length:=by omega
      rw [if_neg e,if_neg e,if_pos e2,if_pos e2]
      exact (hu.grown h2 (fun g hg' e'=>gE hown hu g hg' (by rw [← e']))).top
  · rw [List.filterMap_append,List.nodup_append]
    refine ⟨hown.2.2.2,?_,?_⟩
    · cases hq : blk (Value.slice su nu cu) <;> simp [hq]
    · intro y hy z hz e
      subst e
      cases hq : blk (Value.slice su nu cu) with
      | none => simp [hq] at hz
      | some q => simp [hq] at hz; subst hz; exact hne y hq hy
 obtain ⟨sa,n',c',rfl,hI⟩:=hR.is
 have hn : n' = xss.length + 1:=by have:=hI.len;simp at this;omega
 subst hn
 exact ⟨sa,c',w',hrun,hR,h2⟩
theorem io {w : World} {ops : Array Oper} {o : Oper} {a : Act} {Q : Exit → Act → World → Prop} {K : Act → World → Prop} {E : Prop} (hg : o.guard = none) (s x : Operand) (hop : o.op = .call { callee:=.builtin .append,args:=#[s,x],argTypes:=#[23,23] })
  {lo hi : Nat} {v : Value} {xss : List (List Int)} {vs : List Value} (hs : a.eval s = v) (hown : aQ lo hi w v xss vs) {su : Option Addr} {nu cu : Nat} {row : List Int} (hu : aA lo w.heap.size w (.slice su nu cu) row) (hne : ∀ g,blk (.slice su nu cu) = some g → ¬ g ∈ vs.filterMap blk)
  (bx c : Nat) (hx : a.eval x = .slice (some ⟨bx,0,none⟩) 1 c) (hcell : w.cell? ⟨bx,0,none⟩ = some (.slice su nu cu)) (hlen : xss.length ≤ 1048576) (hbase : lo ≤ w.heap.size)
  (hK : ∀ sa c' w',aQ lo w'.heap.size w' (.slice sa (xss.length + 1) c') (xss ++ [row]) (vs ++ [.slice su nu cu]) → w.grownBy w' (blk v) → K (a.put o.dst (.slice sa (xss.length + 1) c')) w') :
  if Region.wanted o (yielded ops a.tmps) = true then Oper.wp Try.prog o a w K Q else E:=by
 have hw : Region.wanted o (yielded ops a.tmps) = true:=by simp [Region.wanted,hg]
 rw [if_pos hw]
 obtain ⟨sa,c',w',hrun,h1,h2⟩:=jE o.type hown hu hne bx c hcell hlen hbase
 unfold Oper.wp execOp
 simp only [hop,resolve,invoke,builtin,Sem.run_bind,Sem.run_pure,Result.andThen_ok,List.map_toArray,List.map_cons,List.map_nil,hs,hx,hrun]
 exact hK sa c' w' h1 h2
theorem mS (x m : Value) (g : Pa) (hg : PaOk g) (v : Nat) (hv : v < g.prio.length) (ms : List Int) (hm : cL g ms) (w : World) (hP : IsP w x g) (hI : IsI w m ms) : Calls Try.prog 50 #[x,.int .i64 v,m] w (d5 w (dY g v ms)) :=
 lU (vs:=[x,.int .i64 v,m]) (iU g hg v hv ms hm) rfl (.cons (mH hP) (.cons (tE _ _) (.cons (nW hI) .nil)))
theorem l3 {lo hi : Nat} {w w' : World} {sa : Option Addr} {n c : Nat} {rs : List (List Int)} {vs : List Value} {xs : List Int} {e : Ending} (h : aQ lo hi w (.slice sa n c) rs vs) (hr : oA w sa n rs xs e w') : ∃ s' l' c',e = .returned (.slice s' l' c') ∧ aA lo w'.heap.size w' (.slice s' l' c') xs ∧ Below w.heap.size w w':=by
 obtain ⟨j,b,o,s',l',c',hj,hx,rfl,hcell,rfl,hb⟩:=hr
 obtain ⟨g,s2,n2,c2,e1,e2,_,hI,_⟩:=h.row hj
 simp only [Option.some.injEq,Addr.mk.injEq,and_true] at e1
 obtain ⟨rfl,rfl⟩:=e1
 rw [Nat.zero_add,e2] at hcell
 simp only [Option.some.injEq,Value.slice.injEq] at hcell
 obtain ⟨rfl,rfl,rfl⟩:=hcell
 rw [hx] at hI
 exact ⟨_,_,_,rfl,(hI.below hb).top,hb⟩
theorem oB {w w' : World} {r : Option Nat} {B : Nat} {cs : List Value} {T : TypeId} (h : Blk w B cs T) (hg : w.grownBy w' r) (hr : r ≠ some B) : Blk w' B cs T:=(hg.block B h.lt fun e=>hr e.symm).trans h
set_option maxRecDepth 100000 in
set_option maxHeartbeats 1000000 in
theorem lw (x : Value) (g : Pa) (hg : PaOk g) (sa : Option Addr) (n c : Nat) (t : List (List Int)) (ht : dc g t) (v : Nat) (hv : v < g.prio.length) (w : World) (hP : IsP w x g) (hT : Rws w sa n c t) : Calls Try.prog 32 #[x,.slice sa n c,.int .i64 v] w (d5 w (hH g t v)):=by
 have hP0:=hP
 obtain ⟨_,_,_,rfl,⟨s1,n1,c1,rfl,h1⟩,⟨s2,n2,c2,rfl,h2⟩,⟨s3,n3,c3,rfl,h3⟩⟩:=hP
 have hln:=hg.len
 have hnl:=hg.ar.len
 have hle:=hg.ar.le
 have hvt:=(hg.ar.vert v (by omega)).2.2
 have hvn : v < n2:=by have:=h2.len;omega
 have hv1 : v < n1:=by have:=h1.1;omega
 have htl:=ht.len
 have hmt:=hT.max
 have HTL:=Lib.hid hT.len
 obtain ⟨b,o,rfl,hbl,A,L,C,hc⟩:=h2.get hvn
 obtain ⟨hc1,hI0⟩:=hc v hvn
 clear hc
 generalize A v = sr at *
 generalize L v = nr at *
 generalize C v = cr at *
 have HL:=Lib.hid hI0.1
 have hrm:=hI0.max
 have H1:=Lib.hid h1.1
 have HN:=Lib.hid (show nr ≤ 16 ∧ 1 ≤ nr by have:=hI0.1;omega)
 have HG:=Lib.hid hg
 have HTb:=Lib.hid ht
 have HX:=Lib.hid (show n = g.prio.length by have:=hT.len;omega)
 clear hg ht hvt htl
 go_enter Try.func32,Try.ntmps32
 go_wp2_with fail
 have hO : aQ (w.heap.size + 1) ((w.alloc (.cells #[.slice s1 n1 c1,.slice (some ⟨b,o,none⟩) n2 c2,.slice s3 n3 c3] 33)).alloc (.cells #[] 22)).heap.size ((w.alloc (.cells #[.slice s1 n1 c1,.slice (some ⟨b,o,none⟩) n2 c2,.slice s3 n3 c3] 33)).alloc (.cells #[] 22)) (.slice (some ⟨w.heap.size + 1,0,none⟩) 0 0) [] []:=by
  have:=kD (w.heap.size + 1) (w.alloc (.cells #[.slice s1 n1 c1,.slice (some ⟨b,o,none⟩) n2 c2,.slice s3 n3 c3] 33)) (by simp)
  simpa using this
 have hB : Blk ((w.alloc (.cells #[.slice s1 n1 c1,.slice (some ⟨b,o,none⟩) n2 c2,.slice s3 n3 c3] 33)).alloc (.cells #[] 22)) w.heap.size [.slice s1 n1 c1,.slice (some ⟨b,o,none⟩) n2 c2,.slice s3 n3 c3] 33:=(cF w [.slice s1 n1 c1,.slice (some ⟨b,o,none⟩) n2 c2,.slice s3 n3 c3] 33).alloc _
 have hbw : Below w.heap.size w ((w.alloc (.cells #[.slice s1 n1 c1,.slice (some ⟨b,o,none⟩) n2 c2,.slice s3 n3 c3] 33)).alloc (.cells #[] 22)):=(by repeat' (first|(with_reducible exact Below.refl _ _)|(with_reducible apply Below.alloc)|(with_reducible apply Below.drew)|(with_reducible apply ah)|omega|(simp only [World.size_alloc,World.size_setCell,World.size_drew];omega)))
 have hsz : ((w.alloc (.cells #[.slice s1 n1 c1,.slice (some ⟨b,o,none⟩) n2 c2,.slice s3 n3 c3] 33)).alloc (.cells #[] 22)).heap.size = w.heap.size + 1 + 1:=by simp
 generalize ((w.alloc (.cells #[.slice s1 n1 c1,.slice (some ⟨b,o,none⟩) n2 c2,.slice s3 n3 c3] 33)).alloc (.cells #[] 22)) = w1 at *
 have hmo : ∀ k,k < nr → 0 ≤ gi (gr g.ar.nxt v) k ∧ gi (gr g.ar.nxt v) k < n:=fun k hk=>by
  have:=oz HG.out hv (i:=k) (by have:=HL.out;omega)
  have:=HX.out
  omega
 have HMo:=Lib.hid hmo
 clear hmo
 go_loopw [7,18] (fun q i wr=>∃ (k : Nat) (sv : Option Addr) (cv : Nat) (vs : List Value),k ≤ nr ∧ i = .int .i64 k ∧ q = .slice sv k cv ∧ aQ (w.heap.size + 1) wr.heap.size wr (.slice sv k cv) (dM g t v k) vs ∧ Blk wr w.heap.size [.slice s1 n1 c1,.slice (some ⟨b,o,none⟩) n2 c2,.slice s3 n3 c3] 33 ∧ Below w.heap.size w wr ∧ w.heap.size + 1 < wr.heap.size) (fun _ i _=>nr - (intOf i).toNat)
 case atStart=>exact ⟨0,_,_,[],by omega,rfl,rfl,hO,hB,hbw,by omega⟩
 case round =>
  clear hO hB hbw hsz
  obtain ⟨k,sv,cv,vs,hk,rfl,rfl,ho,hB,hb,hsz⟩:=hrel
  have b0:=hB.cell 0 rfl
  have b1:=hB.cell 1 rfl
  have b2:=hB.cell 2 rfl
  by_cases hlt : k < nr
  · obtain ⟨b',o',rfl,hbl',hcl⟩:=hI0.get hlt
    have hce:=(b9 hb).1 b' (o' + k) hbl'
    rw [hcl k hlt] at hce
    clear hcl
    obtain ⟨hu0,hu1⟩:=HMo.out k hlt
    obtain ⟨m,hm⟩:=Int.eq_ofNat_of_zero_le hu0
    rw [hm] at hce hu1
    have hmn : m < n:=by omega
    have HM:=Lib.hid hm
    clear hm hu0 hu1
    obtain ⟨bt,ot,rfl,hbt,A,L,C,hct⟩:=hT.get hmn
    have hcw:=(b9 hb).1 bt (ot + m) hbt
    obtain ⟨hd1,hd2⟩:=hct m hmn
    rw [hd1] at hcw
    clear hct hd1
    have hIt:=hd2.below hb
    have hmem : ∀ g,g ∈ vs.filterMap blk → g < wr.heap.size:=pQ ho
    have HS:=Lib.hid (hM g t v k)
    have HA:=Lib.hid (eT g t v k)
    have hms:=Lib.hid (HTb.out.row (v:=m) (by have:=HX.out;omega))
    go_wp2_with fail
    go_region_law (first
     | (go_simp; go_at_call 50; refine (mS _ _ _ HG.out v hv _ hms.out _ (hP0.below (by repeat' (first | (with_reducible exact Below.refl _ _) | (with_reducible assumption) | (with_reducible apply ak) | (with_reducible apply Below.alloc) | (with_reducible apply Below.drew) | (with_reducible apply ah) | (with_reducible refine Below.trans ?_ (Below.mono (by assumption) ?_)) | omega | (simp only [World.size_alloc, World.size_setCell, World.size_drew]; omega)))) (hIt.is.below (by repeat' (first | (with_reducible exact Below.refl _ _) | (with_reducible assumption) | (with_reducible apply ak) | (with_reducible apply Below.alloc) | (with_reducible apply Below.drew) | (with_reducible apply ah) | (with_reducible refine Below.trans ?_ (Below.mono (by assumption) ?_)) | omega | (simp only [World.size_alloc, World.size_setCell, World.size_drew]; omega))))).mono ?_; rintro e w5 ⟨s5, n5, c5, rfl, ho5, hb5⟩; have hB5 : Below wr.heap.size wr w5 := (by repeat' (first | (with_reducible exact Below.refl _ _) | (with_reducible assumption) | (with_reducible apply ak) | (with_reducible apply Below.alloc) | (with_reducible apply Below.drew) | (with_reducible apply ah) | (with_reducible refine Below.trans ?_ (Below.mono (by assumption) ?_)) | omega | (simp only [World.size_alloc, World.size_setCell, World.size_drew]; omega))); have hz5 := hB5.size; have hlo5 : wr.heap.size ≤ w5.heap.size := by omega)
     | (refine io (by rfl) _ _ (by rfl) (by rfl) (aQ.below (aQ.below ho hB5) (ao _ _)) (su := s5) (nu := n5) (cu := c5) (row := dY g v (gr t m)) (((ho5.mono (by simp; omega) (Nat.le_refl _)).below (ao _ _)).top) (fun q hq hq' => by have h1 := (aC.lt ho5 q hq).1; have h2 := hmem q hq'; simp at h1; omega) _ _ (by rfl) (by simp) (by rw [HA.out]; have := HN.out; omega) (by simp; omega) ?_; intro s6 c6 w6 ho6 g6; have hz6 := g6.size))
    all_goals
     go_wp2_with fail
     go_roundw
    all_goals first
     | (case measure => simp [intOf]; omega)
     | (case rel =>
        have hA:=HA.out
        have hS:=HS.out
        rw [HM.out,Int.toNat_natCast] at hS
        rw [← hS,hA] at ho6
        have hbA:=ao w5 (.cells #[.slice s5 n5 c5] 22)
        have hne : blk (.slice sv k cv) ≠ some w.heap.size:=fun e=>by have:=(aC.lt ho.2.1 _ e).1;omega
        refine ⟨k + 1,s6,c6,_,by omega,by go_num,by rw [hA],ho6,oB ((hB.below hB5).below hbA) g6 hne,Below.grown (hb.trans ((hB5.trans (hbA.mono hz5)).mono hb.size)) g6 (by simp;omega) (fun q hq=>by have:=(aC.lt ho.2.1 _ hq).1;omega),by (try simp only [World.size_alloc] at hz6);omega⟩)
  · have e : k = nr:=by omega
    subst e
    have hRr : ∃ sa',∃ n',∃ c',Value.slice sv k cv = .slice sa' n' c' ∧ Rws wr sa' n' c' (dM g t v k):=by
     obtain ⟨sa',n',c',e,h⟩:=ho.is
     exact ⟨sa',n',c',e,h⟩
    obtain ⟨sa',n',c',e,hRr⟩:=hRr
    simp only [Value.slice.injEq] at e
    obtain ⟨rfl,rfl,rfl⟩:=e
    have hk0 : 0 < k:=by have:=HN.out;omega
    have hok:=hU HG.out HTb.out hv (k:=k) (by have:=HL.out;omega)
    rw [eT] at hok
    obtain ⟨bo,oo,rfl,hbo,hco⟩:=h1.get hv1
    have hoc:=(b9 hb).1 bo (oo + v) hbo
    rw [hco v hv1] at hoc
    clear hco
    have hdm:=fun bb=>jD (g:=g) (t:=t) (v:=v) (b:=bb)
    have hkl : (gr g.ar.nxt v).length = k:=HL.out
    rw [hkl] at hdm
    by_cases h0 : gi g.ar.own v = 0
    · have HD:=Lib.hid (hdm true (aE h0))
      clear hdm hkl
      rw [h0] at hoc
      go_wp2_with (go_at_call 51;refine (mQ _ _ _ _ _ hRr hk0 hok).mono ?_;rw [HD.out];intro e w5 hr5;obtain ⟨s5,n5,c5,rfl,ho5,hb5⟩:=l3 ho hr5)
      go_ret
      exact ⟨_,_,_,rfl,aA.mono ho5 (by omega) (Nat.le_refl _),hb.trans (hb5.mono hb.size)⟩
    · have HD:=Lib.hid (hdm false (ap h0))
      have hb0 : (gi g.ar.own v == 0) = false:=by simpa using h0
      clear hdm hkl
      go_wp2_with (go_at_call 52;refine (mR _ _ _ _ _ hRr hk0 hok).mono ?_;rw [HD.out];intro e w5 hr5;obtain ⟨s5,n5,c5,rfl,ho5,hb5⟩:=l3 ho hr5)
      go_ret
      exact ⟨_,_,_,rfl,aA.mono ho5 (by omega) (Nat.le_refl _),hb.trans (hb5.mono hb.size)⟩
end Go.Proofs.Ytceonklhlpkfgaa
namespace Go.Proofs.Ytceonklhlpkfgaa
set_option linter.unusedVariables false
set_option linter.unusedSimpArgs false
open Go.RowKit
attribute [local go_sem ↓] Go.wp_at_zero Go.wp_at_succ
theorem aQ.put2 {lo hi : Nat} {w w' : World} {gv nv cv : Nat} {xss : List (List Int)} {vs : List Value} (h : aQ lo hi w (.slice (some ⟨gv,0,none⟩) nv cv) xss vs) {k : Nat} (hk : k < xss.length) {u : Value} {ys : List Int}
  (hu' : aA w.heap.size w'.heap.size w' u ys) (hg : Below w.heap.size w w') (hlo : lo ≤ w.heap.size) :
  aQ lo w'.heap.size (w'.setCell ⟨gv,k,none⟩ u) (.slice (some ⟨gv,0,none⟩) nv cv) (xss.set k ys) (vs.set k u):=by
 have hu : aA lo w'.heap.size w' u ys:=hu'.mono hlo (Nat.le_refl _)
 have hf : ∀ g,blk u = some g → blk (vs.getD k (.slice none 0 0)) = some g ∨ w.heap.size ≤ g:=fun g hg'=>.inr (aA.blks hu' g hg').1
 have hne : blk (.slice (some ⟨gv,0,none⟩) nv cv) ≠ blk (vs.getD k (.slice none 0 0)):=fun e=>by
  have:=dA h.2.1 (h.2.2.1 k hk) (by decide) gv rfl
  exact this (by rw [← e];rfl)
 have hV : aC 22 lo w'.heap.size w' (.slice (some ⟨gv,0,none⟩) nv cv) vs:=(aC.top (aC.keep h.2.1 (w':=w') fun g hg'=>hg.block g (aC.lt h.2.1 g hg').2.2))
 have hvu : ∀ g,blk u = some g → gv ≠ g:=fun g hg' e=>dA hV hu (by decide) gv rfl (by rw [hg',e])
 refine ⟨by simp [h.1],(aC.set hV k u),fun j hj=>?_,?_⟩
 · rw [List.length_set] at hj
   rw [fF hk]
   have hgd : (vs.set k u).getD j (.slice none 0 0) = if j = k then u else vs.getD j (.slice none 0 0):=by
    simp only [List.getD_eq_getElem?_getD,List.getElem?_set]
    by_cases e : k = j
    · subst e;simp [h.1,hk]
    · rw [if_neg e,if_neg (fun h=>e h.symm)]
   rw [hgd]
   by_cases e : j = k
   · rw [if_pos e,if_pos e]
     exact aC.other hu (fun e'=>hvu gv e' rfl) k u
   · rw [if_neg e,if_neg e]
     have hj':=h.2.2.1 j hj
     have hd:=gB h.2.2.2 (i:=j) (j:=k) (by rw [h.1];exact hj) (by rw [h.1];exact hk) e (.slice none 0 0)
     have h1 : aA lo w'.heap.size w' (vs.getD j (.slice none 0 0)) (gr xss j):=aC.top (aC.keep hj' (w':=w') fun g hg'=>hg.block g (aC.lt hj' g hg').2.2)
     exact aC.other h1 (fun e'=>dA hV h1 (by decide) gv rfl e') k u
 · have hlt : ∀ g,g ∈ vs.filterMap blk → g < w.heap.size:=by
    intro g hg'
    obtain ⟨x,hx,e⟩:=List.mem_filterMap.1 hg'
    obtain ⟨j,hj,e2⟩:=List.getElem_of_mem hx
    have:=h.2.2.1 j (by rw [← h.1];exact hj)
    rw [List.getD_eq_getElem?_getD,List.getElem?_eq_getElem hj] at this
    simp only [Option.getD_some,e2] at this
    exact (aC.lt this g e).2.2
   have hk' : k < vs.length:=by rw [h.1];exact hk
   have e1 : vs = vs.take k ++ vs.getD k (.slice none 0 0) :: vs.drop (k + 1):=by
    rw [List.getD_eq_getElem?_getD,List.getElem?_eq_getElem hk',Option.getD_some,List.getElem_cons_drop,List.take_append_drop]
   have hn:=h.2.2.2
   rw [e1] at hn hlt
   rw [List.set_eq_take_append_cons_drop,if_pos hk']
   revert hn hlt hf
   generalize vs.getD k (.slice none 0 0) = o
   generalize vs.take k = a
   generalize vs.drop (k + 1) = b
   intro hf hlt hn
   rw [List.filterMap_append,List.filterMap_cons] at hn hlt ⊢
   cases hu' : blk u with
   | none =>
     simp only
     cases ho : blk o with
     | none => rw [ho] at hn; exact hn
     | some q => rw [ho] at hn; simp only at hn; exact (hn.sublist (List.Sublist.append (List.Sublist.refl _) (List.sublist_cons_self _ _)))
   | some p =>
     simp only
     rcases hf p hu' with e|e
     · rw [e] at hn;exact hn
     · have hn2 : (a.filterMap blk ++ b.filterMap blk).Nodup:=by
        cases ho : blk o with
        | none => rw [ho] at hn; exact hn
        | some q => rw [ho] at hn; simp only at hn; exact (hn.sublist (List.Sublist.append (List.Sublist.refl _) (List.sublist_cons_self _ _)))
       have hm : ∀ g,g ∈ a.filterMap blk ++ b.filterMap blk → g < w.heap.size:=by
        intro g hg'
        apply hlt g
        rcases List.mem_append.1 hg' with h'|h'
        · exact List.mem_append.2 (.inl h')
        · cases ho : blk o with
          | none => exact List.mem_append.2 (.inr h')
          | some q => exact List.mem_append.2 (.inr (List.mem_cons_of_mem _ h'))
       have hp : ¬ p ∈ a.filterMap blk ++ b.filterMap blk:=fun h'=>by have:=hm p h';omega
       exact (List.perm_middle.nodup_iff).2 (List.nodup_cons.2 ⟨hp,hn2⟩)
theorem oC (x : Value) (g : Pa) (w : World) (hP : IsP w x g) : Calls Try.prog 28 #[x] w fun e w'=>e = .returned (.bool (tf (cH g))) ∧ Below w.heap.size w w' :=
 pE (vs:=[x]) (ko g) (.cons (mH hP) .nil)
end Go.Proofs.Ytceonklhlpkfgaa
namespace Go.Proofs.Ytceonklhlpkfgaa
set_option linter.unusedVariables false
set_option linter.unusedSimpArgs false
open Go.RowKit
attribute [local go_sem ↓] Go.wp_at_zero Go.wp_at_succ
theorem mT {w : World} {s : Option Addr} {n c : Nat} {xs ys : List Int} (h : b8 w s n c xs) (k : b8 w s n c ys) : xs = ys:=by
 have h1:=h.1
 have k1:=k.1
 refine (kp (by omega)).2 fun j hj=>?_
 have hjn : j < n:=by omega
 obtain ⟨b,o,rfl,_,hc⟩:=h.get hjn
 obtain ⟨b',o',e,_,kc⟩:=k.get hjn
 simp only [Option.some.injEq,Addr.mk.injEq,and_true] at e
 obtain ⟨rfl,rfl⟩:=e
 have e2:=(hc j hjn).symm.trans (kc j hjn)
 simpa using e2
theorem oD {w : World} {s : Option Addr} {n c : Nat} {xs ys : List (List Int)} (h : Rws w s n c xs) (k : Rws w s n c ys) : xs = ys:=by
 have h1:=h.len
 have k1:=k.len
 refine List.ext_getElem (by omega) fun j i1 i2=>?_
 have hjn : j < n:=by omega
 obtain ⟨b,o,rfl,_,A,L,C,hc⟩:=h.get hjn
 obtain ⟨b',o',e,_,A',L',C',kc⟩:=k.get hjn
 simp only [Option.some.injEq,Addr.mk.injEq,and_true] at e
 obtain ⟨rfl,rfl⟩:=e
 obtain ⟨q1,q2⟩:=hc j hjn
 obtain ⟨r1,r2⟩:=kc j hjn
 rw [q1] at r1
 simp only [Option.some.injEq,Value.slice.injEq] at r1
 obtain ⟨e1,e2,e3⟩:=r1
 rw [← e1,← e2,← e3] at r2
 have:=mT q2 r2
 rwa [iX i1,iX i2] at this
open Classical in

noncomputable def oE (w : World) (s : Option Addr) (n c : Nat) : List (List Int):=if h : ∃ t,Rws w s n c t then Classical.choose h else []
theorem ku {w : World} {s : Option Addr} {n c : Nat} {t : List (List Int)} (h : Rws w s n c t) : oE w s n c = t:=by
 have h' : ∃ t,Rws w s n c t:=⟨t,h⟩
 unfold oE
 rw [dif_pos h']
 exact oD (Classical.choose_spec h') h
theorem fA {lo hi : Nat} {w : World} {s : Option Addr} {n c : Nat} {t : List (List Int)} {vs : List Value} (h : aQ lo hi w (.slice s n c) t vs) : Rws w s n c t:=by
 obtain ⟨s',n',c',e,h⟩:=h.is
 simp only [Value.slice.injEq] at e
 obtain ⟨rfl,rfl,rfl⟩:=e
 exact h
end Go.Proofs.Ytceonklhlpkfgaa
namespace Go.Proofs.Ytceonklhlpkfgaa
set_option linter.unusedVariables false
set_option linter.unusedSimpArgs false
open Go.RowKit
attribute [local go_sem ↓] Go.wp_at_zero Go.wp_at_succ
theorem gd (x y : Value) (g : Pa) (hg : PaOk g) (t : List (List Int)) (ht : dc g t) (w : World) (hP : IsP w x g) (hT : cD w y t) : Calls Try.prog 56 #[x,y] w fun e w'=>e = .returned (.int .i64 (frm (Uns g t) g.prio.length)) ∧ Below w.heap.size w w' :=
 lQ (vs:=[x,y]) (lu g hg t ht) (.cons (mH hP) (.cons (p8 hT) .nil))
set_option maxRecDepth 100000 in
set_option maxHeartbeats 1000000 in
theorem jF (x : Value) (g : Pa) (hs : cH g) (w : World) (hP : IsP w x g) : Calls Try.prog 41 #[x] w (tN w g.prio.length (bd g).least):=by
 have hP0:=hP
 obtain ⟨_,_,_,rfl,⟨s1,n1,c1,rfl,h1⟩,⟨s2,n2,c2,rfl,h2⟩,⟨s3,n3,c3,rfl,h3⟩⟩:=hP
 have hg:=hs.1
 have hm3:=h3.max
 obtain rfl:=h3.1
 have hle : g.prio.length ≤ 12:=hs.2
 have hK:=cM g
 have HG:=Lib.hid hg
 have HS:=Lib.hid hs
 obtain ⟨i0,hi,hz0,hz1,hz2⟩:=info_parts Try.infoS
 obtain ⟨j0,hj,hy0,hy1,hy2⟩:=info_parts Try.infoI
 have HI:=Lib.hid (show True ∧ True from ⟨trivial,trivial⟩)
 clear hg hs
 go_enter Try.func41,Try.ntmps41
 go_wp2_with (at_make;refine wpList_make_full _ rfl _ _ 23 rfl (w.heap.size + 1) 22 i0 (.slice none 0 0) 1 Try.underlying23 hi hz0 hz1 _ _ _ _ g.prio.length rfl rfl rfl rfl (by rw [hz2];omega) (by unfold maxLen;omega) (by simp) ?_)
 intro w1 hown hgrow
 rw [fT] at hown
 have hB : Blk w1 w.heap.size [.slice s1 n1 c1,.slice s2 n2 c2,.slice s3 g.prio.length c3] 33:=oB (cF w [.slice s1 n1 c1,.slice s2 n2 c2,.slice s3 g.prio.length c3] 33) hgrow (by simp)
 have hsz : w.heap.size + 1 < w1.heap.size:=(hown.lt _ rfl).2
 have ho : dq (w.heap.size + 1) w1 (.slice (some ⟨w.heap.size + 1,0,none⟩) g.prio.length g.prio.length) g.prio.length (bd g).zero 0 [] :=
  ⟨rfl,by simpa using bL hown,fun i hi=>by omega,by simp⟩
 have hb : Below w.heap.size w w1:=Below.grown (ao _ _) hgrow (by simp) (fun k h=>by cases h)
 clear hown hgrow
 go_wp2_with fail
 go_loopw [12] (fun i wr=>∃ (k : Nat) (vs : List Value),k ≤ g.prio.length ∧ i = .int .i64 k ∧ dq (w.heap.size + 1) wr (.slice (some ⟨w.heap.size + 1,0,none⟩) g.prio.length g.prio.length) g.prio.length (bd g).zero k vs ∧ Blk wr w.heap.size [.slice s1 n1 c1,.slice s2 n2 c2,.slice s3 g.prio.length c3] 33 ∧ Below w.heap.size w wr ∧ w.heap.size + 1 < wr.heap.size) (fun i _=>g.prio.length - (intOf i).toNat)
 case atStart=>exact ⟨0,[],by omega,rfl,ho,hB,hb,hsz⟩
 case round =>
  clear ho hB hb hsz
  obtain ⟨k,vs,hk,rfl,ho,hB,hb,hsz⟩:=hrel
  have b0:=hB.cell 0 rfl
  have b1:=hB.cell 1 rfl
  have b2:=hB.cell 2 rfl
  by_cases hlt : k < g.prio.length
  · go_wp2_with fail
    refine (lU (vs:=[_]) (gt g HG.out) rfl (.cons (mH (hP0.below hb)) .nil)).mono ?_
    rintro e w2 ⟨so,no,co,rfl,hoo,hb2⟩
    have hno:=hoo.len
    have hz2:=hb2.size
    have hB2:=hB.below hb2
    have ho2:=ho.below hb2
    have hwk : IntKind.i64.wrap ((no : Int) + 1) = ((no + 1 : Nat) : Int):=by rw [IntKind.wrap_i64];omega
    clear b0 b1 b2
    have hmx:=(aA.is hoo)
    go_wp2_with (at_make;refine wpList_make_full _ rfl _ _ 22 rfl w2.heap.size 2 j0 (.int .i64 0) 1 Try.underlying22 hj hy0 hy1 _ _ _ _ (no + 1) rfl rfl rfl rfl (by rw [hy2];omega) (by unfold maxLen;omega) (Nat.le_refl _) ?_)
    intro w3 hown hgrow
    rw [iu] at hown
    have ho3 : aA w2.heap.size w3.heap.size w3 (.slice (some ⟨w2.heap.size,0,none⟩) (no + 1) (no + 1)) (tab (no + 1) fun _=>0):=bL hown
    have hb3 : Below w2.heap.size w2 w3:=(Below.refl _ _).grown hgrow (Nat.le_refl _) (fun k h=>by cases h)
    clear hown hgrow
    have hz3:=hb3.size
    obtain ⟨⟨q,hq1⟩,hq2⟩:=(ho2.below hb3).cell hlt
    have hzr : gr (bd g).zero k = tab (no + 1) fun _=>0:=by rw [kt,jz _ hlt,hno]
    rw [← hzr] at ho3
    go_wp2_with fail
    go_roundw
    case rel =>
     exact ⟨k + 1,vs ++ [_],by omega,by go_num,ho2.step hlt hb3 ho3 (by omega) (by omega),(hB2.below hb3).other (by omega) k _,ak (hb.trans ((hb2.trans (hb3.mono hz2)).mono hb.size)) (by omega) _,by rw [World.size_setCell];omega⟩
    case measure=>simp [intOf];omega
  · have e : k = g.prio.length:=by omega
    subst e
    have hzl : (bd g).zero.length = g.prio.length:=by rw [kt,gZ]
    have hO : aQ (w.heap.size + 1) wr.heap.size wr (.slice (some ⟨w.heap.size + 1,0,none⟩) g.prio.length g.prio.length) (bd g).zero vs :=
     ⟨by rw [ho.1,hzl],by simpa using ho.2.1,fun i hi=>ho.2.2.1 i (by rw [hzl] at hi;exact hi),ho.2.2.2⟩
    clear ho b0 b1 b2
    go_wp2_with fail
    go_loopw [5] (fun _ wx=>∃ (t : List (List Int)) (vs : List Value),(bd g).Low t ∧ aQ (w.heap.size + 1) wx.heap.size wx (.slice (some ⟨w.heap.size + 1,0,none⟩) g.prio.length g.prio.length) t vs ∧ Blk wx w.heap.size [.slice s1 n1 c1,.slice s2 n2 c2,.slice s3 g.prio.length c3] 33 ∧ Below w.heap.size w wx ∧ w.heap.size + 1 < wx.heap.size) (fun _ wx=>MS.gapT 13 (bd g).K (oE wx (some ⟨w.heap.size + 1,0,none⟩) g.prio.length g.prio.length) (bd g).n)
    case atStart=>exact ⟨_,vs,MS.zero_low (cX HG.out),hO,hB,hb,hsz⟩
    case round =>
     clear hO hB hb hsz
     obtain ⟨t,vs,hlow,hO,hB,hb,hsz⟩:=hrel
     have hti : dc g t:=hlow.1
     have b0:=hB.cell 0 rfl
     have b1:=hB.cell 1 rfl
     have b2:=hB.cell 2 rfl
     have htl:=hti.len
     rcases fy (Uns g t) g.prio.length with ⟨e,hno⟩|⟨v,hv,e,hu,_⟩
     · have HE:=Lib.hid e
       clear e
       go_wp2_with (go_at_call 56;refine (gd _ _ _ HG.out t hti _ (hP0.below hb) (fA hO).is).mono ?_;rw [HE.out];rintro e w2 ⟨rfl,hb2⟩)
       go_ret
       rw [← MS.least_eq (MS.low_steady hlow hno)]
       exact ⟨_,_,vs,rfl,aQ.mono (aQ.top (hO.below hb2)) (by omega) (Nat.le_refl _),hb.trans (hb2.mono hb.size)⟩
     · have HE:=Lib.hid e
       clear e
       go_wp2_with (first
        | (go_at_call 56; refine (gd _ _ _ HG.out t hti _ (hP0.below hb) (fA hO).is).mono ?_; rw [HE.out]; rintro e w2 ⟨rfl, hb2⟩; have c0 := al b0 hb2; have c1' := al b1 hb2; have c2' := al b2 hb2; have hz2 := hb2.size)
        | (go_at_call 32; refine (lw _ _ HG.out _ _ _ _ hti v hv _ ((hP0.below hb).below hb2) ((fA hO).below hb2)).mono ?_; rintro e w3 ⟨s5, n5, c5, rfl, ho5, hb3⟩; have hz3 := hb3.size; obtain ⟨gN, c9, e9, _, _, _, hN3, hN4⟩ := ((hO.2.1.below hb2).below hb3).at (k := v) (.slice none 0 0) (by rw [hO.1]; omega); have hNc := hN3 v (by rw [hO.1]; omega); have hNf := hN4 v; simp only [Value.slice.injEq, Option.some.injEq, Addr.mk.injEq, and_true] at e9; obtain ⟨rfl, -, -⟩ := e9; clear hN3 hN4))
       have hb13 : Below wr.heap.size wr w3:=hb2.trans (hb3.mono hz2)
       have hn5 : aA wr.heap.size w3.heap.size w3 (.slice s5 n5 c5) (hH g t v):=aA.mono ho5 (by omega) (Nat.le_refl _)
       have hP2:=aQ.put2 (w':=w3) hO (k:=v) (by omega) hn5 hb13 (by omega)
       have hP3 : aQ (w.heap.size + 1) (w3.setCell ⟨w.heap.size + 1,v,none⟩ (.slice s5 n5 c5)).heap.size (w3.setCell ⟨w.heap.size + 1,v,none⟩ (.slice s5 n5 c5)) (.slice (some ⟨w.heap.size + 1,0,none⟩) g.prio.length g.prio.length) (t.set v (hH g t v)) (vs.set v (.slice s5 n5 c5)):=aQ.mono hP2 (Nat.le_refl _) (by simp)
       have hlw:=MS.low_lift (cX HG.out) hlow hv
       have hBx:=((hB.below hb2).below hb3).other (show w.heap.size + 1 ≠ w.heap.size by omega) v (.slice s5 n5 c5)
       have hbx : Below w.heap.size w (w3.setCell ⟨w.heap.size + 1,v,none⟩ (.slice s5 n5 c5)):=ak (hb.trans (hb13.mono hb.size)) (by omega) _
       have hme:=MS.gapT_lt (oy HS.out) (by decide) hti hv (gu HG.out hti hv) hu
       rw [← ku (fA hP3),← ku (fA hO)] at hme
       go_roundw
       case rel=>exact ⟨_,_,hlw,hP3,hBx,hbx,by rw [World.size_setCell];omega⟩
       case measure=>exact hme
end Go.Proofs.Ytceonklhlpkfgaa
