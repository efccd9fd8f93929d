/-
  LiftedAt of the program, owned.
-/
import Derived.Test.YtceonklhlpkfgaaZlM6
import Derived.Test.YtceonklhlpkfgaaZlX8
import Derived.Test.YtceonklhlpkfgaaZlM7
import Derived.Test.YtceonklhlpkfgaaZlM3
import Derived.Test.YtceonklhlpkfgaaZlM8
namespace Go.Proofs.Ytceonklhlpkfgaa
set_option linter.unusedVariables false
set_option linter.unusedSimpArgs false
open Go.RowKit
attribute [local go_sem ↓] Go.wp_at_zero Go.wp_at_succ
theorem kw (x y : Value) (a b : List Int) (w : World) (hx : IsI w x a) (hy : IsI w y b) (ha : a.length ≤ 1048576) (hb : b.length ≤ 1048576) : Calls Try.prog 33 #[x,y] w fun e w'=>e = .returned (.int .i64 (MS.cmp a b)) ∧ Below w.heap.size w w' :=
 pD (vs:=[x,y]) (mX a b ha hb) (.cons (mR hx) (.cons (mR hy) .nil))
def oC (w : World) (sa : Option Addr) (n : Nat) (rs : List (List Int)) (xs : List Int) (e : Ending) (w' : World) : Prop :=
 ∃ (j b o : Nat) (s' : Option Addr) (l' c' : Nat),j < n ∧ gr rs j = xs ∧ sa = some ⟨b,o,none⟩ ∧ w.cell? ⟨b,o + j,none⟩ = some (.slice s' l' c') ∧ e = .returned (.slice s' l' c') ∧ Below w.heap.size w w'
set_option maxRecDepth 100000 in
set_option maxHeartbeats 1000000 in
theorem mZ (sa : Option Addr) (n c : Nat) (rs : List (List Int)) (w : World) (hR : Rws w sa n c rs) (h0 : 0 < n) (hr : ∀ i,i < n → (gr rs i).length ≤ 1048576) :
  Calls Try.prog 51 #[.slice sa n c,.func (.func 33) #[] #[]] w (oC w sa n rs (MS.bst true (gr rs) n)):=by
 have hmax:=hR.max
 have HL:=Lib.hid hR.len
 have HR:=Lib.hid hr
 clear hr
 obtain ⟨b,o,rfl,hbl,A,L,C,hc⟩:=hR.get h0
 have HC:=Lib.hid hc
 obtain ⟨hc0,hd0⟩:=hc 0 h0
 rw [Nat.add_zero] at hc0
 clear hc
 go_enter Try.func51,Try.ntmps51
 go_wp2_with fail
 have hbw : Below w.heap.size w w:=Below.refl _ _
 go_loopw [5,6] (fun v i wr=>∃ (k j : Nat),j < k ∧ k ≤ n ∧ i = .int .i64 k ∧ v = .slice (A j) (L j) (C j) ∧ gr rs j = MS.bst true (gr rs) k ∧ Below w.heap.size w wr) (fun _ i _=>n - (intOf i).toNat)
 case atStart=>exact ⟨1,0,by omega,by omega,rfl,rfl,(MS.bst_yes (.inl rfl)).symm,hbw⟩
 case round =>
  clear hbw
  obtain ⟨k,j,hjk,hk,rfl,rfl,hg,hb⟩:=hrel
  have HG:=Lib.hid hg
  clear hg
  by_cases hlt : k < n
  · obtain ⟨hck,hdk⟩:=HC.out k hlt
    obtain ⟨hcj,hdj⟩:=HC.out j (by omega)
    have hcw:=(b8 hb).1 b (o + k) hbl
    rw [hck] at hcw
    clear hck hcj
    have hIk:=hdk.below hb
    have hIj:=hdj.below hb
    have hlk:=HR.out k hlt
    have hlj:=HR.out j (by omega)
    by_cases hm : MS.cmp (gr rs k) (gr rs j) < 0
    · have HM:=Lib.hid (ox (L:=gr rs) (k:=k) (by rw [← HG.out];exact MS.cmp_lt.1 hm))
      go_wp2_with (go_at_call 33;refine (kw _ _ _ _ _ hIk.is hIj.is hlk hlj).mono ?_;rintro e w5 ⟨rfl,hb5⟩;have hcw5:=aj hcw hb5)
      go_roundw
      case rel=>exact ⟨k + 1,k,by omega,by omega,by go_num,rfl,HM.out.symm,hb.trans (hb5.mono hb.size)⟩
      case measure=>simp [intOf];omega
    · have HM:=Lib.hid (oz (L:=gr rs) (k:=k) (by omega) fun h'=>hm (MS.cmp_lt.2 (by rw [HG.out];exact h')))
      go_wp2_with (go_at_call 33;refine (kw _ _ _ _ _ hIk.is hIj.is hlk hlj).mono ?_;rintro e w5 ⟨rfl,hb5⟩)
      go_roundw
      case rel=>exact ⟨k + 1,j,by omega,by omega,by go_num,rfl,HG.out.trans HM.out.symm,hb.trans (hb5.mono hb.size)⟩
      case measure=>simp [intOf];omega
  · have e : k = n:=by omega
    subst e
    obtain ⟨hcj,_⟩:=HC.out j (by omega)
    go_wp2_with fail
    go_ret
    exact ⟨j,b,o,A j,L j,C j,hjk,HG.out,rfl,hcj,rfl,hb⟩
set_option maxRecDepth 100000 in
set_option maxHeartbeats 1000000 in
theorem m0 (sa : Option Addr) (n c : Nat) (rs : List (List Int)) (w : World) (hR : Rws w sa n c rs) (h0 : 0 < n) (hr : ∀ i,i < n → (gr rs i).length ≤ 1048576) :
  Calls Try.prog 52 #[.slice sa n c,.func (.func 33) #[] #[]] w (oC w sa n rs (MS.bst false (gr rs) n)):=by
 have hmax:=hR.max
 have HL:=Lib.hid hR.len
 have HR:=Lib.hid hr
 clear hr
 obtain ⟨b,o,rfl,hbl,A,L,C,hc⟩:=hR.get h0
 have HC:=Lib.hid hc
 obtain ⟨hc0,hd0⟩:=hc 0 h0
 rw [Nat.add_zero] at hc0
 clear hc
 go_enter Try.func52,Try.ntmps52
 go_wp2_with fail
 have hbw : Below w.heap.size w w:=Below.refl _ _
 go_loopw [5,6] (fun v i wr=>∃ (k j : Nat),j < k ∧ k ≤ n ∧ i = .int .i64 k ∧ v = .slice (A j) (L j) (C j) ∧ gr rs j = MS.bst false (gr rs) k ∧ Below w.heap.size w wr) (fun _ i _=>n - (intOf i).toNat)
 case atStart=>exact ⟨1,0,by omega,by omega,rfl,rfl,(MS.bst_yes (.inl rfl)).symm,hbw⟩
 case round =>
  clear hbw
  obtain ⟨k,j,hjk,hk,rfl,rfl,hg,hb⟩:=hrel
  have HG:=Lib.hid hg
  clear hg
  by_cases hlt : k < n
  · obtain ⟨hck,hdk⟩:=HC.out k hlt
    obtain ⟨hcj,hdj⟩:=HC.out j (by omega)
    have hcw:=(b8 hb).1 b (o + k) hbl
    rw [hck] at hcw
    clear hck hcj
    have hIk:=hdk.below hb
    have hIj:=hdj.below hb
    have hlk:=HR.out k hlt
    have hlj:=HR.out j (by omega)
    by_cases hm : 0 < MS.cmp (gr rs k) (gr rs j)
    · have HM:=Lib.hid (oy (L:=gr rs) (k:=k) (by rw [← HG.out];exact MS.cmp_gt.1 hm))
      go_wp2_with (go_at_call 33;refine (kw _ _ _ _ _ hIk.is hIj.is hlk hlj).mono ?_;rintro e w5 ⟨rfl,hb5⟩;have hcw5:=aj hcw hb5)
      go_roundw
      case rel=>exact ⟨k + 1,k,by omega,by omega,by go_num,rfl,HM.out.symm,hb.trans (hb5.mono hb.size)⟩
      case measure=>simp [intOf];omega
    · have HM:=Lib.hid (oA (L:=gr rs) (k:=k) (by omega) fun h'=>hm (MS.cmp_gt.2 (by rw [HG.out];exact h')))
      go_wp2_with (go_at_call 33;refine (kw _ _ _ _ _ hIk.is hIj.is hlk hlj).mono ?_;rintro e w5 ⟨rfl,hb5⟩)
      go_roundw
      case rel=>exact ⟨k + 1,j,by omega,by omega,by go_num,rfl,HG.out.trans HM.out.symm,hb.trans (hb5.mono hb.size)⟩
      case measure=>simp [intOf];omega
  · have e : k = n:=by omega
    subst e
    obtain ⟨hcj,_⟩:=HC.out j (by omega)
    go_wp2_with fail
    go_ret
    exact ⟨j,b,o,A j,L j,C j,hjk,HG.out,rfl,hcj,rfl,hb⟩
end Go.Proofs.Ytceonklhlpkfgaa
namespace Go.Proofs.Ytceonklhlpkfgaa
set_option linter.unusedVariables false
set_option linter.unusedSimpArgs false
open Go.RowKit
attribute [local go_sem ↓] Go.wp_at_zero Go.wp_at_succ
theorem jJ {w : World} (ty : TypeId) {lo hi : Nat} {v : Value} {xss : List (List Int)} {vs : List Value} (hown : aO lo hi w v xss vs) {su : Option Addr} {nu cu : Nat} {row : List Int} (hu : aC lo w.heap.size w (.slice su nu cu) row) (hne : ∀ g,blk (.slice su nu cu) = some g → ¬ g ∈ vs.filterMap blk)
  (b c : Nat) (hcell : w.cell? ⟨b,0,none⟩ = some (.slice su nu cu)) (hlen : xss.length ≤ 1048576) (hbase : lo ≤ w.heap.size) :
  ∃ sa c' w',(Builtin.append_ #[23,23] ty #[v,.slice (some ⟨b,0,none⟩) 1 c]).run Try.prog w = .ok (.slice sa (xss.length + 1) c') w' ∧ aO lo w'.heap.size w' (.slice sa (xss.length + 1) c') (xss ++ [row]) (vs ++ [.slice su nu cu]) ∧ w.grownBy w' (blk v):=by
 obtain ⟨i0,hi',hz0,hz1,hz2⟩:=info_parts Try.infoS
 have hcells : ∀ (j : Nat) (u : Value),[Value.slice su nu cu][j]? = some u → w.cell? ((⟨b,0,none⟩ : Addr).add j) = some u:=by
  intro j u hj
  match j,hj with
  | 0, hj => simp at hj; subst hj; simpa [Addr.add] using hcell
 have h1c : ∀ u ∈ [Value.slice su nu cu],u.oneCell' = true:=by intro u hu;simp at hu;subst hu;rfl
 obtain ⟨v',w',hrun,h1,h2,_⟩:=run_append_own (P:=Try.prog) w lo 23 ty 22 i0 (.slice none 0 0) 1 24 Try.underlying23 hi' hz0 hz1 hz2 rfl (by decide) v xss.length vs (by have:=aD.row hown.2.1;rwa [hown.1] at this) ⟨b,0,none⟩ 1 c [.slice su nu cu] rfl hcells h1c (by unfold maxLen;omega) (by omega) hbase
 have hV : aD 22 lo w'.heap.size w' v' (vs ++ [.slice su nu cu]):=bN h1
 have hR : aO lo w'.heap.size w' v' (xss ++ [row]) (vs ++ [.slice su nu cu]):=by
  refine ⟨by simp [hown.1],hV,fun k hk=>?_,?_⟩
  · rw [iw,fY,hown.1]
    simp only [List.length_append,List.length_singleton] at hk
    by_cases e : k < xss.length
    · rw [if_pos e,if_pos e]
      have hk':=hown.2.2.1 k e
      have hm : ∀ g,blk (vs.getD k (.slice none 0 0)) = some g → blk v ≠ some g:=dP hown hk'
      exact ((hk'.grown h2 (fun g hg' e'=>hm g hg' (by rw [← e']))).top).mono (Nat.le_refl _) (Nat.le_refl _)
    · have e2 : k = xss.length:=by omega
      rw [if_neg e,if_neg e,if_pos e2,if_pos e2]
      exact (hu.grown h2 (fun g hg' e'=>dP hown hu g hg' (by rw [← e']))).top
  · rw [List.filterMap_append,List.nodup_append]
    refine ⟨hown.2.2.2,?_,?_⟩
    · cases hq : blk (Value.slice su nu cu) <;> simp [hq]
    · intro y hy z hz e
      subst e
      cases hq : blk (Value.slice su nu cu) with
      | none => simp [hq] at hz
      | some q => simp [hq] at hz; subst hz; exact hne y hq hy
 obtain ⟨sa,n',c',rfl,hI⟩:=hR.is
 have hn : n' = xss.length + 1:=by have:=hI.len;simp at this;omega
 subst hn
 exact ⟨sa,c',w',hrun,hR,h2⟩
theorem ir {w : World} {ops : Array Oper} {o : Oper} {a : Act} {Q : Exit → Act → World → Prop} {K : Act → World → Prop} {E : Prop} (hg : o.guard = none) (s x : Operand) (hop : o.op = .call { callee:=.builtin .append,args:=#[s,x],argTypes:=#[23,23] })
  {lo hi : Nat} {v : Value} {xss : List (List Int)} {vs : List Value} (hs : a.eval s = v) (hown : aO lo hi w v xss vs) {su : Option Addr} {nu cu : Nat} {row : List Int} (hu : aC lo w.heap.size w (.slice su nu cu) row) (hne : ∀ g,blk (.slice su nu cu) = some g → ¬ g ∈ vs.filterMap blk)
  (bx c : Nat) (hx : a.eval x = .slice (some ⟨bx,0,none⟩) 1 c) (hcell : w.cell? ⟨bx,0,none⟩ = some (.slice su nu cu)) (hlen : xss.length ≤ 1048576) (hbase : lo ≤ w.heap.size)
  (hK : ∀ sa c' w',aO lo w'.heap.size w' (.slice sa (xss.length + 1) c') (xss ++ [row]) (vs ++ [.slice su nu cu]) → w.grownBy w' (blk v) → K (a.put o.dst (.slice sa (xss.length + 1) c')) w') :
  if Region.wanted o (yielded ops a.tmps) = true then Oper.wp Try.prog o a w K Q else E:=by
 have hw : Region.wanted o (yielded ops a.tmps) = true:=by simp [Region.wanted,hg]
 rw [if_pos hw]
 obtain ⟨sa,c',w',hrun,h1,h2⟩:=jJ o.type hown hu hne bx c hcell hlen hbase
 unfold Oper.wp execOp
 simp only [hop,resolve,invoke,builtin,Sem.run_bind,Sem.run_pure,Result.andThen_ok,List.map_toArray,List.map_cons,List.map_nil,hs,hx,hrun]
 exact hK sa c' w' h1 h2
theorem m7 (x m : Value) (g : Pa) (hg : PaOk g) (v : Nat) (hv : v < g.prio.length) (ms : List Int) (hm : bJ g ms) (w : World) (hP : IsP w x g) (hI : IsI w m ms) : Calls Try.prog 50 #[x,.int .i64 v,m] w (d9 w (d5 g v ms)) :=
 pG (vs:=[x,.int .i64 v,m]) (mY g hg v hv ms hm) rfl (.cons (mS hP) (.cons (nX _ _) (.cons (mR hI) .nil)))
theorem mb {lo hi : Nat} {w w' : World} {sa : Option Addr} {n c : Nat} {rs : List (List Int)} {vs : List Value} {xs : List Int} {e : Ending} (h : aO lo hi w (.slice sa n c) rs vs) (hr : oC w sa n rs xs e w') : ∃ s' l' c',e = .returned (.slice s' l' c') ∧ aC lo w'.heap.size w' (.slice s' l' c') xs ∧ Below w.heap.size w w':=by
 obtain ⟨j,b,o,s',l',c',hj,hx,rfl,hcell,rfl,hb⟩:=hr
 obtain ⟨g,s2,n2,c2,e1,e2,_,hI,_⟩:=h.row hj
 simp only [Option.some.injEq,Addr.mk.injEq,and_true] at e1
 obtain ⟨rfl,rfl⟩:=e1
 rw [Nat.zero_add,e2] at hcell
 simp only [Option.some.injEq,Value.slice.injEq] at hcell
 obtain ⟨rfl,rfl,rfl⟩:=hcell
 rw [hx] at hI
 exact ⟨_,_,_,rfl,(hI.below hb).top,hb⟩
theorem qV {w w' : World} {r : Option Nat} {B : Nat} {cs : List Value} {T : TypeId} (h : Blk w B cs T) (hg : w.grownBy w' r) (hr : r ≠ some B) : Blk w' B cs T:=(hg.block B h.lt fun e=>hr e.symm).trans h
set_option maxRecDepth 100000 in
set_option maxHeartbeats 1000000 in
theorem lA (x : Value) (g : Pa) (hg : PaOk g) (sa : Option Addr) (n c : Nat) (t : List (List Int)) (ht : dg g t) (v : Nat) (hv : v < g.prio.length) (w : World) (hP : IsP w x g) (hT : Rws w sa n c t) : Calls Try.prog 32 #[x,.slice sa n c,.int .i64 v] w (d9 w (gg g t v)):=by
 have hP0:=hP
 obtain ⟨_,_,_,rfl,⟨s1,n1,c1,rfl,h1⟩,⟨s2,n2,c2,rfl,h2⟩,⟨s3,n3,c3,rfl,h3⟩⟩:=hP
 have hln:=hg.len
 have hnl:=hg.ar.len
 have hle:=hg.ar.le
 have hvt:=(hg.ar.vert v (by omega)).2.2
 have hvn : v < n2:=by have:=h2.len;omega
 have hv1 : v < n1:=by have:=h1.1;omega
 have htl:=ht.len
 have hmt:=hT.max
 have HTL:=Lib.hid hT.len
 obtain ⟨b,o,rfl,hbl,A,L,C,hc⟩:=h2.get hvn
 obtain ⟨hc1,hI0⟩:=hc v hvn
 clear hc
 generalize A v = sr at *
 generalize L v = nr at *
 generalize C v = cr at *
 have HL:=Lib.hid hI0.1
 have hrm:=hI0.max
 have H1:=Lib.hid h1.1
 have HN:=Lib.hid (show nr ≤ 16 ∧ 1 ≤ nr by have:=hI0.1;omega)
 have HG:=Lib.hid hg
 have HTb:=Lib.hid ht
 have HX:=Lib.hid (show n = g.prio.length by have:=hT.len;omega)
 clear hg ht hvt htl
 go_enter Try.func32,Try.ntmps32
 go_wp2_with fail
 have hO : aO (w.heap.size + 1) ((w.alloc (.cells #[.slice s1 n1 c1,.slice (some ⟨b,o,none⟩) n2 c2,.slice s3 n3 c3] 33)).alloc (.cells #[] 22)).heap.size ((w.alloc (.cells #[.slice s1 n1 c1,.slice (some ⟨b,o,none⟩) n2 c2,.slice s3 n3 c3] 33)).alloc (.cells #[] 22)) (.slice (some ⟨w.heap.size + 1,0,none⟩) 0 0) [] []:=by
  have:=gD (w.heap.size + 1) (w.alloc (.cells #[.slice s1 n1 c1,.slice (some ⟨b,o,none⟩) n2 c2,.slice s3 n3 c3] 33)) (by simp)
  simpa using this
 have hB : Blk ((w.alloc (.cells #[.slice s1 n1 c1,.slice (some ⟨b,o,none⟩) n2 c2,.slice s3 n3 c3] 33)).alloc (.cells #[] 22)) w.heap.size [.slice s1 n1 c1,.slice (some ⟨b,o,none⟩) n2 c2,.slice s3 n3 c3] 33:=(bK w [.slice s1 n1 c1,.slice (some ⟨b,o,none⟩) n2 c2,.slice s3 n3 c3] 33).alloc _
 have hbw : Below w.heap.size w ((w.alloc (.cells #[.slice s1 n1 c1,.slice (some ⟨b,o,none⟩) n2 c2,.slice s3 n3 c3] 33)).alloc (.cells #[] 22)):=(by repeat' (first|(with_reducible exact Below.refl _ _)|(with_reducible apply Below.alloc)|(with_reducible apply Below.drew)|(with_reducible apply ah)|omega|(simp only [World.size_alloc,World.size_setCell,World.size_drew];omega)))
 have hsz : ((w.alloc (.cells #[.slice s1 n1 c1,.slice (some ⟨b,o,none⟩) n2 c2,.slice s3 n3 c3] 33)).alloc (.cells #[] 22)).heap.size = w.heap.size + 1 + 1:=by simp
 generalize ((w.alloc (.cells #[.slice s1 n1 c1,.slice (some ⟨b,o,none⟩) n2 c2,.slice s3 n3 c3] 33)).alloc (.cells #[] 22)) = w1 at *
 have hmo : ∀ k,k < nr → 0 ≤ gi (gr g.ar.nxt v) k ∧ gi (gr g.ar.nxt v) k < n:=fun k hk=>by
  have:=pO HG.out hv (i:=k) (by have:=HL.out;omega)
  have:=HX.out
  omega
 have HMo:=Lib.hid hmo
 clear hmo
 go_loopw [7,18] (fun q i wr=>∃ (k : Nat) (sv : Option Addr) (cv : Nat) (vs : List Value),k ≤ nr ∧ i = .int .i64 k ∧ q = .slice sv k cv ∧ aO (w.heap.size + 1) wr.heap.size wr (.slice sv k cv) (fb g t v k) vs ∧ Blk wr w.heap.size [.slice s1 n1 c1,.slice (some ⟨b,o,none⟩) n2 c2,.slice s3 n3 c3] 33 ∧ Below w.heap.size w wr ∧ w.heap.size + 1 < wr.heap.size) (fun _ i _=>nr - (intOf i).toNat)
 case atStart=>exact ⟨0,_,_,[],by omega,rfl,rfl,hO,hB,hbw,by omega⟩
 case round =>
  clear hO hB hbw hsz
  obtain ⟨k,sv,cv,vs,hk,rfl,rfl,ho,hB,hb,hsz⟩:=hrel
  have b0:=hB.cell 0 rfl
  have b1:=hB.cell 1 rfl
  have b2:=hB.cell 2 rfl
  by_cases hlt : k < nr
  · obtain ⟨b',o',rfl,hbl',hcl⟩:=hI0.get hlt
    have hce:=(b8 hb).1 b' (o' + k) hbl'
    rw [hcl k hlt] at hce
    clear hcl
    obtain ⟨hu0,hu1⟩:=HMo.out k hlt
    obtain ⟨m,hm⟩:=Int.eq_ofNat_of_zero_le hu0
    rw [hm] at hce hu1
    have hmn : m < n:=by omega
    have HM:=Lib.hid hm
    clear hm hu0 hu1
    obtain ⟨bt,ot,rfl,hbt,A,L,C,hct⟩:=hT.get hmn
    have hcw:=(b8 hb).1 bt (ot + m) hbt
    obtain ⟨hd1,hd2⟩:=hct m hmn
    rw [hd1] at hcw
    clear hct hd1
    have hIt:=hd2.below hb
    have hmem : ∀ g,g ∈ vs.filterMap blk → g < wr.heap.size:=ma ho
    have HS:=Lib.hid (lz g t v k)
    have HA:=Lib.hid (fU g t v k)
    have hms:=Lib.hid (HTb.out.row (v:=m) (by have:=HX.out;omega))
    go_wp2_with fail
    go_region_law (first
     | (go_simp; go_at_call 50; refine (m7 _ _ _ HG.out v hv _ hms.out _ (hP0.below (by repeat' (first | (with_reducible exact Below.refl _ _) | (with_reducible assumption) | (with_reducible apply al) | (with_reducible apply Below.alloc) | (with_reducible apply Below.drew) | (with_reducible apply ah) | (with_reducible refine Below.trans ?_ (Below.mono (by assumption) ?_)) | omega | (simp only [World.size_alloc, World.size_setCell, World.size_drew]; omega)))) (hIt.is.below (by repeat' (first | (with_reducible exact Below.refl _ _) | (with_reducible assumption) | (with_reducible apply al) | (with_reducible apply Below.alloc) | (with_reducible apply Below.drew) | (with_reducible apply ah) | (with_reducible refine Below.trans ?_ (Below.mono (by assumption) ?_)) | omega | (simp only [World.size_alloc, World.size_setCell, World.size_drew]; omega))))).mono ?_; rintro e w5 ⟨s5, n5, c5, rfl, ho5, hb5⟩; have hB5 : Below wr.heap.size wr w5 := (by repeat' (first | (with_reducible exact Below.refl _ _) | (with_reducible assumption) | (with_reducible apply al) | (with_reducible apply Below.alloc) | (with_reducible apply Below.drew) | (with_reducible apply ah) | (with_reducible refine Below.trans ?_ (Below.mono (by assumption) ?_)) | omega | (simp only [World.size_alloc, World.size_setCell, World.size_drew]; omega))); have hz5 := hB5.size; have hlo5 : wr.heap.size ≤ w5.heap.size := by omega)
     | (refine ir (by rfl) _ _ (by rfl) (by rfl) (aO.below (aO.below ho hB5) (ao _ _)) (su := s5) (nu := n5) (cu := c5) (row := d5 g v (gr t m)) (((ho5.mono (by simp; omega) (Nat.le_refl _)).below (ao _ _)).top) (fun q hq hq' => by have h1 := (aD.lt ho5 q hq).1; have h2 := hmem q hq'; simp at h1; omega) _ _ (by rfl) (by simp) (by rw [HA.out]; have := HN.out; omega) (by simp; omega) ?_; intro s6 c6 w6 ho6 g6; have hz6 := g6.size))
    all_goals
     go_wp2_with fail
     go_roundw
    all_goals first
     | (case measure => simp [intOf]; omega)
     | (case rel =>
        have hA:=HA.out
        have hS:=HS.out
        rw [HM.out,Int.toNat_natCast] at hS
        rw [← hS,hA] at ho6
        have hbA:=ao w5 (.cells #[.slice s5 n5 c5] 22)
        have hne : blk (.slice sv k cv) ≠ some w.heap.size:=fun e=>by have:=(aD.lt ho.2.1 _ e).1;omega
        refine ⟨k + 1,s6,c6,_,by omega,by go_num,by rw [hA],ho6,qV ((hB.below hB5).below hbA) g6 hne,Below.grown (hb.trans ((hB5.trans (hbA.mono hz5)).mono hb.size)) g6 (by simp;omega) (fun q hq=>by have:=(aD.lt ho.2.1 _ hq).1;omega),by (try simp only [World.size_alloc] at hz6);omega⟩)
  · have e : k = nr:=by omega
    subst e
    have hRr : ∃ sa',∃ n',∃ c',Value.slice sv k cv = .slice sa' n' c' ∧ Rws wr sa' n' c' (fb g t v k):=by
     obtain ⟨sa',n',c',e,h⟩:=ho.is
     exact ⟨sa',n',c',e,h⟩
    obtain ⟨sa',n',c',e,hRr⟩:=hRr
    simp only [Value.slice.injEq] at e
    obtain ⟨rfl,rfl,rfl⟩:=e
    have hk0 : 0 < k:=by have:=HN.out;omega
    have hok:=oB HG.out HTb.out hv (k:=k) (by have:=HL.out;omega)
    rw [fU] at hok
    obtain ⟨bo,oo,rfl,hbo,hco⟩:=h1.get hv1
    have hoc:=(b8 hb).1 bo (oo + v) hbo
    rw [hco v hv1] at hoc
    clear hco
    have hdm:=fun bb=>pP (g:=g) (t:=t) (v:=v) (b:=bb)
    have hkl : (gr g.ar.nxt v).length = k:=HL.out
    rw [hkl] at hdm
    by_cases h0 : gi g.ar.own v = 0
    · have HD:=Lib.hid (hdm true (aA h0))
      clear hdm hkl
      rw [h0] at hoc
      go_wp2_with (go_at_call 51;refine (mZ _ _ _ _ _ hRr hk0 hok).mono ?_;rw [HD.out];intro e w5 hr5;obtain ⟨s5,n5,c5,rfl,ho5,hb5⟩:=mb ho hr5)
      go_ret
      exact ⟨_,_,_,rfl,aC.mono ho5 (by omega) (Nat.le_refl _),hb.trans (hb5.mono hb.size)⟩
    · have HD:=Lib.hid (hdm false (am h0))
      have hb0 : (gi g.ar.own v == 0) = false:=by simpa using h0
      clear hdm hkl
      go_wp2_with (go_at_call 52;refine (m0 _ _ _ _ _ hRr hk0 hok).mono ?_;rw [HD.out];intro e w5 hr5;obtain ⟨s5,n5,c5,rfl,ho5,hb5⟩:=mb ho hr5)
      go_ret
      exact ⟨_,_,_,rfl,aC.mono ho5 (by omega) (Nat.le_refl _),hb.trans (hb5.mono hb.size)⟩
end Go.Proofs.Ytceonklhlpkfgaa
namespace Go.Proofs.Ytceonklhlpkfgaa
set_option linter.unusedVariables false
set_option linter.unusedSimpArgs false
open Go.RowKit
attribute [local go_sem ↓] Go.wp_at_zero Go.wp_at_succ
theorem aO.put2 {lo hi : Nat} {w w' : World} {gv nv cv : Nat} {xss : List (List Int)} {vs : List Value} (h : aO lo hi w (.slice (some ⟨gv,0,none⟩) nv cv) xss vs) {k : Nat} (hk : k < xss.length) {u : Value} {ys : List Int}
  (hu' : aC w.heap.size w'.heap.size w' u ys) (hg : Below w.heap.size w w') (hlo : lo ≤ w.heap.size) :
  aO lo w'.heap.size (w'.setCell ⟨gv,k,none⟩ u) (.slice (some ⟨gv,0,none⟩) nv cv) (xss.set k ys) (vs.set k u):=by
 have hu : aC lo w'.heap.size w' u ys:=hu'.mono hlo (Nat.le_refl _)
 have hf : ∀ g,blk u = some g → blk (vs.getD k (.slice none 0 0)) = some g ∨ w.heap.size ≤ g:=fun g hg'=>.inr (aC.blks hu' g hg').1
 have hne : blk (.slice (some ⟨gv,0,none⟩) nv cv) ≠ blk (vs.getD k (.slice none 0 0)):=fun e=>by
  have:=dD h.2.1 (h.2.2.1 k hk) (by decide) gv rfl
  exact this (by rw [← e];rfl)
 have hV : aD 22 lo w'.heap.size w' (.slice (some ⟨gv,0,none⟩) nv cv) vs:=(aD.top (aD.keep h.2.1 (w':=w') fun g hg'=>hg.block g (aD.lt h.2.1 g hg').2.2))
 have hvu : ∀ g,blk u = some g → gv ≠ g:=fun g hg' e=>dD hV hu (by decide) gv rfl (by rw [hg',e])
 refine ⟨by simp [h.1],(aD.set hV k u),fun j hj=>?_,?_⟩
 · rw [List.length_set] at hj
   rw [kI hk]
   have hgd : (vs.set k u).getD j (.slice none 0 0) = if j = k then u else vs.getD j (.slice none 0 0):=by
    simp only [List.getD_eq_getElem?_getD,List.getElem?_set]
    by_cases e : k = j
    · subst e;simp [h.1,hk]
    · rw [if_neg e,if_neg (fun h=>e h.symm)]
   rw [hgd]
   by_cases e : j = k
   · rw [if_pos e,if_pos e]
     exact aD.other hu (fun e'=>hvu gv e' rfl) k u
   · rw [if_neg e,if_neg e]
     have hj':=h.2.2.1 j hj
     have hd:=gA h.2.2.2 (i:=j) (j:=k) (by rw [h.1];exact hj) (by rw [h.1];exact hk) e (.slice none 0 0)
     have h1 : aC lo w'.heap.size w' (vs.getD j (.slice none 0 0)) (gr xss j):=aD.top (aD.keep hj' (w':=w') fun g hg'=>hg.block g (aD.lt hj' g hg').2.2)
     exact aD.other h1 (fun e'=>dD hV h1 (by decide) gv rfl e') k u
 · have hlt : ∀ g,g ∈ vs.filterMap blk → g < w.heap.size:=by
    intro g hg'
    obtain ⟨x,hx,e⟩:=List.mem_filterMap.1 hg'
    obtain ⟨j,hj,e2⟩:=List.getElem_of_mem hx
    have:=h.2.2.1 j (by rw [← h.1];exact hj)
    rw [List.getD_eq_getElem?_getD,List.getElem?_eq_getElem hj] at this
    simp only [Option.getD_some,e2] at this
    exact (aD.lt this g e).2.2
   have hk' : k < vs.length:=by rw [h.1];exact hk
   have e1 : vs = vs.take k ++ vs.getD k (.slice none 0 0) :: vs.drop (k + 1):=by
    rw [List.getD_eq_getElem?_getD,List.getElem?_eq_getElem hk',Option.getD_some,List.getElem_cons_drop,List.take_append_drop]
   have hn:=h.2.2.2
   rw [e1] at hn hlt
   rw [List.set_eq_take_append_cons_drop,if_pos hk']
   revert hn hlt hf
   generalize vs.getD k (.slice none 0 0) = o
   generalize vs.take k = a
   generalize vs.drop (k + 1) = b
   intro hf hlt hn
   rw [List.filterMap_append,List.filterMap_cons] at hn hlt ⊢
   cases hu' : blk u with
   | none =>
     simp only
     cases ho : blk o with
     | none => rw [ho] at hn; exact hn
     | some q => rw [ho] at hn; simp only at hn; exact (hn.sublist (List.Sublist.append (List.Sublist.refl _) (List.sublist_cons_self _ _)))
   | some p =>
     simp only
     rcases hf p hu' with e|e
     · rw [e] at hn;exact hn
     · have hn2 : (a.filterMap blk ++ b.filterMap blk).Nodup:=by
        cases ho : blk o with
        | none => rw [ho] at hn; exact hn
        | some q => rw [ho] at hn; simp only at hn; exact (hn.sublist (List.Sublist.append (List.Sublist.refl _) (List.sublist_cons_self _ _)))
       have hm : ∀ g,g ∈ a.filterMap blk ++ b.filterMap blk → g < w.heap.size:=by
        intro g hg'
        apply hlt g
        rcases List.mem_append.1 hg' with h'|h'
        · exact List.mem_append.2 (.inl h')
        · cases ho : blk o with
          | none => exact List.mem_append.2 (.inr h')
          | some q => exact List.mem_append.2 (.inr (List.mem_cons_of_mem _ h'))
       have hp : ¬ p ∈ a.filterMap blk ++ b.filterMap blk:=fun h'=>by have:=hm p h';omega
       exact (List.perm_middle.nodup_iff).2 (List.nodup_cons.2 ⟨hp,hn2⟩)
open Classical in

noncomputable def iZ (g : Pa) (t : List (List Int)) (v : Nat) : List (List Int):=if Uns g t v then t.set v (gg g t v) else t
theorem fV {g : Pa} {t : List (List Int)} {v : Nat} (h : Uns g t v) : iZ g t v = t.set v (gg g t v):=if_pos h
theorem hZ {g : Pa} {t : List (List Int)} {v : Nat} (h : ¬ Uns g t v) : iZ g t v = t:=if_neg h
theorem oD (x : Value) (g : Pa) (w : World) (hP : IsP w x g) : Calls Try.prog 28 #[x] w fun e w'=>e = .returned (.bool (tf (eZ g))) ∧ Below w.heap.size w w' :=
 jD (vs:=[x]) (ks g) (.cons (mS hP) .nil)
theorem lB (x y : Value) (g : Pa) (hg : PaOk g) (t : List (List Int)) (w : World) (hP : IsP w x g) (hT : cg w y t) : Calls Try.prog 29 #[x,y] w fun e w'=>e = .returned (.bool (tf (dg g t))) ∧ Below w.heap.size w w' :=
 jD (vs:=[x,y]) (iY g hg t) (.cons (mS hP) (.cons (iW hT) .nil))
theorem pQ (x : Value) (a : Ar) (v : Int) (w : World) (hA : IsA w x a) : Calls Try.prog 30 #[x,.int .i64 v] w fun e w'=>e = .returned (.bool (tf (nj a.own.length v))) ∧ Below w.heap.size w w' :=
 jD (vs:=[x,.int .i64 v]) (l3 a v) (.cons (tC hA) (.cons (nX _ _) .nil))
set_option maxRecDepth 100000 in
set_option maxHeartbeats 1000000 in
theorem lC (x : Value) (g : Pa) (hs : eZ g) (sa : Option Addr) (n c : Nat) (t : List (List Int)) (ht : dg g t) (v : Nat) (hv : v < g.prio.length) (w : World) (hP : IsP w x g) (hT : Rws w sa n c t) :
  Calls Try.prog 10 #[x,.slice sa n c,.int .i64 v] w (sn w n (iZ g t v)):=by
 have hP0:=hP
 obtain ⟨_,_,_,rfl,⟨s1,n1,c1,rfl,h1⟩,⟨s2,n2,c2,rfl,h2⟩,⟨s3,n3,c3,rfl,h3⟩⟩:=hP
 have hg:=hs.1
 have hln:=hg.len
 have hle:=hs.2
 have hAr : IsA w (.agg #[.slice s1 n1 c1,.slice s2 n2 c2]) g.ar:=⟨_,_,rfl,h1.is,h2.is⟩
 have htl:=hT.len
 have htg:=ht.len
 have hvn : v < n:=by omega
 have hn12 : n ≤ 65536:=by omega
 have hmt:=hT.max
 have k1:=Lib.hid (aA hs)
 have k2:=Lib.hid (aA ht)
 have k3:=Lib.hid (aA (show nj g.ar.own.length (v : Int) from ⟨by omega,by omega⟩))
 have hrow : ∀ k,k < n → 0 < (gr t k).length ∧ (gr t k).length ≤ 1048576:=fun k hk=>by have:=cf (ht.row (v:=k) (by omega));omega
 have hd:=cf (jI hg ht hv)
 have hm:=cf (ht.row hv)
 have HG:=Lib.hid hg
 have HTb:=Lib.hid ht
 have HTl:=Lib.hid htl
 have HD:=Lib.hid (show (gg g t v).length ≤ 1048576 ∧ (gr t v).length ≤ 1048576 by omega)
 have HRow:=Lib.hid hrow
 clear hg hs ht htl htg hrow hd hm
 obtain ⟨b,o,rfl,hbl,A,L,C,hc⟩:=hT.get hvn
 obtain ⟨hc1,hI0⟩:=hc v hvn
 clear hc
 go_enter Try.func10,Try.ntmps10
 go_wp2_with fail
 have b0 : (w.alloc (.cells #[.slice s1 n1 c1,.slice s2 n2 c2,.slice s3 n3 c3] 33)).cell? ⟨w.heap.size,0,none⟩ = some (.slice s1 n1 c1):=(bK w [.slice s1 n1 c1,.slice s2 n2 c2,.slice s3 n3 c3] 33).cell 0 rfl
 have hbw : Below w.heap.size w (w.alloc (.cells #[.slice s1 n1 c1,.slice s2 n2 c2,.slice s3 n3 c3] 33)):=ao _ _
 have b1 : (w.alloc (.cells #[.slice s1 n1 c1,.slice s2 n2 c2,.slice s3 n3 c3] 33)).cell? ⟨w.heap.size,1,none⟩ = some (.slice s2 n2 c2):=(bK w [.slice s1 n1 c1,.slice s2 n2 c2,.slice s3 n3 c3] 33).cell 1 rfl
 have b2 : (w.alloc (.cells #[.slice s1 n1 c1,.slice s2 n2 c2,.slice s3 n3 c3] 33)).cell? ⟨w.heap.size,2,none⟩ = some (.slice s3 n3 c3):=(bK w [.slice s1 n1 c1,.slice s2 n2 c2,.slice s3 n3 c3] 33).cell 2 rfl
 have hz1 : w.heap.size ≤ (w.alloc (.cells #[.slice s1 n1 c1,.slice s2 n2 c2,.slice s3 n3 c3] 33)).heap.size:=by simp
 generalize w.alloc (.cells #[.slice s1 n1 c1,.slice s2 n2 c2,.slice s3 n3 c3] 33) = w1 at *
 go_wp2_with (first
  | (go_at_call 28; refine (oD _ _ _ (hP0.below hbw)).mono ?_; rw [k1.out]; rintro e w2 ⟨rfl, hbw2⟩; replace b0 := aj b0 hbw2; replace b1 := aj b1 hbw2; replace b2 := aj b2 hbw2; replace hbw : Below w.heap.size w w2 := hbw.trans (hbw2.mono hbw.size); have hz2 := hbw2.size)
  | (go_at_call 29; refine (lB _ _ _ HG.out _ _ (hP0.below hbw) (hT.is.below hbw)).mono ?_; rw [k2.out]; rintro e w3 ⟨rfl, hbw3⟩; replace b0 := aj b0 hbw3; replace b1 := aj b1 hbw3; replace b2 := aj b2 hbw3; replace hbw : Below w.heap.size w w3 := hbw.trans (hbw3.mono hbw.size); have hz3 := hbw3.size)
  | (go_at_call 30; refine (pQ _ _ _ _ (hAr.below hbw)).mono ?_; rw [k3.out]; rintro e w4 ⟨rfl, hbw4⟩; replace b0 := aj b0 hbw4; replace b1 := aj b1 hbw4; replace b2 := aj b2 hbw4; replace hbw : Below w.heap.size w w4 := hbw.trans (hbw4.mono hbw.size); have hz4 := hbw4.size)
  | (go_at_call 31; refine (kv _ _ _ _ _ (hT.below hbw) hn12 HRow.out).mono ?_; rintro e w5 ⟨s5, c5, vs, rfl, ho5, hbw5⟩; replace b0 := aj b0 hbw5; replace b1 := aj b1 hbw5; replace b2 := aj b2 hbw5; replace hbw : Below w.heap.size w w5 := hbw.trans (hbw5.mono hbw.size); have hz5 := hbw5.size)
  | (go_at_call 32; refine (lA _ _ HG.out _ _ _ _ HTb.out v hv _ (hP0.below hbw) (hT.below hbw)).mono ?_; rintro e w6 ⟨s6, n6, c6, rfl, ho6, hbw6⟩; replace b0 := aj b0 hbw6; replace b1 := aj b1 hbw6; replace b2 := aj b2 hbw6; replace hbw : Below w.heap.size w w6 := hbw.trans (hbw6.mono hbw.size); have hz6 := hbw6.size; have hrw := (b8 hbw).1 b (o + v) hbl; rw [hc1] at hrw; have hIw := hI0.below hbw))
 have hIy:=hIw.is
 refine (kw _ _ _ _ _ ho6.is hIy HD.out.1 HD.out.2).mono ?_
 rintro e w7 ⟨rfl,hb7⟩
 have hb57 : Below w5.heap.size w5 w7:=hbw6.trans (hb7.mono hz6)
 have hz7:=hb7.size
 obtain ⟨gN,c5',e5,hN1,_,_,hN3,hN4⟩:=(ho5.2.1.below hb57).at (k:=v) (.slice none 0 0) (by rw [ho5.1];have:=HTl.out;omega)
 simp only [Value.slice.injEq] at e5
 obtain ⟨rfl,-,rfl⟩:=e5
 have hNc:=hN3 v (by rw [ho5.1];have:=HTl.out;omega)
 have hNf:=hN4 v
 clear hN3 hN4
 have hbw7 : Below w.heap.size w w7:=hbw.trans (hb7.mono (by have:=hbw.size;omega))
 have hwz:=hbw.size
 have hgt : 0 < MS.cmp (gg g t v) (gr t v) ↔ Uns g t v:=MS.cmp_gt
 by_cases hu : Uns g t v
 · have hq:=hgt.2 hu
   have HU:=Lib.hid hu
   clear hu hgt
   go_wp2_with fail
   go_ret
   rw [fV HU.out]
   have hu7 : aC w5.heap.size w7.heap.size w7 (.slice s6 n6 c6) (gg g t v):=aD.top (aD.below ho6 hb7)
   have hp:=aO.put2 (w':=w7) ho5 (k:=v) (by have:=HTl.out;omega) hu7 hb57 (by omega)
   exact ⟨_,_,_,rfl,aO.mono hp (by omega) (by simp),al hbw7 (by omega) _⟩
 · have hq : ¬ 0 < MS.cmp (gg g t v) (gr t v):=fun h=>hu (hgt.1 h)
   have HU:=Lib.hid hu
   clear hu hgt
   go_wp2_with fail
   go_ret
   rw [hZ HU.out]
   exact ⟨_,_,_,rfl,aO.mono (aO.top (ho5.below hb57)) (by omega) (Nat.le_refl _),hbw7⟩
end Go.Proofs.Ytceonklhlpkfgaa
