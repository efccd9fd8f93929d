/-
  StagesOf on both sides, in the old words.
-/
import Derived.Test.YtdkkhhfhdijfmaaZsYT
import Derived.Test.YtdkkhhfhdijfmaaZsQB
import Derived.Test.YtdkkhhfhdijfmaaZsLaw
namespace Go.Proofs.Ytdkkhhfhdijfmaa
set_option linter.unusedVariables false
set_option linter.unusedSimpArgs false
open Go.RowKit
attribute [local go_sem ↓] Go.wp_at_zero Go.wp_at_succ
abbrev Sg:=Nat × (Nat → St)
def nT (p : Sg) : Prop:=p.1 ≤ 1099511627776 ∧ (∀ j,j < p.1 → (p.2 j).won.length ≤ 1048576 ∧ (p.2 j).region.length ≤ 1048576) ∧ cE p.2 p.1 ≤ 576460752303423488
def jU (w : World) (v : Value) (p : Sg) : Prop:=nT p ∧ ∃ s c,v = .slice s p.1 c ∧ (p.1 = 0 ∨ ∃ b o,s = some ⟨b,o,none⟩ ∧ StgL w b o p.1 p.2)
def dT (lo hi : Nat) (w : World) (v : Value) (p : Sg) : Prop:=nT p ∧ ((v = .slice none 0 0 ∧ p.1 = 0) ∨ ∃ gO cap cs,v = .slice (some ⟨gO,0,none⟩) p.1 cap ∧ SgL lo hi w gO p.1 cap cs p.2)
def pE (p : Sg) (k : Int) : Sg:=(p.1,iM p.2 k)
theorem nU (f : Nat → St) (k : Int) : ∀ n,cE (iM f k) n = cE f n
 | 0 => rfl
 | n + 1 => by simp only [cE, nU f k n, iM, kJ]
theorem s7 {p : Sg} (k : Int) (h : nT p) : nT (pE p k) :=
 ⟨h.1,fun j hj=>by simp only [pE,iM,kJ];exact h.2.1 j hj,by show cE (iM p.2 k) p.1 ≤ _;rw [nU];exact h.2.2⟩
theorem jU.below {w w' : World} {v : Value} {p : Sg} (h : jU w v p) (hb : Below w.heap.size w w') : jU w' v p:=by
 obtain ⟨h0,s,c,rfl,h|⟨b,o,rfl,h⟩⟩:=h
 · exact ⟨h0,s,c,rfl,.inl h⟩
 · exact ⟨h0,_,c,rfl,.inr ⟨b,o,rfl,h.below hb⟩⟩
theorem jU.drew {w : World} {v : Value} {p : Sg} (h : jU w v p) : jU w.drew v p:=h.below (bU w)
theorem dT.is {lo hi : Nat} {w : World} {v : Value} {p : Sg} (h : dT lo hi w v p) : jU w v p:=by
 obtain ⟨h0,⟨rfl,h⟩|⟨gO,cap,cs,rfl,h⟩⟩:=h
 · exact ⟨h0,none,0,by rw [h],.inl h⟩
 · exact ⟨h0,_,_,rfl,.inr ⟨gO,0,rfl,h.stgL⟩⟩
theorem dT.below {lo hi : Nat} {w w' : World} {v : Value} {p : Sg} (h : dT lo hi w v p) (hb : Below w.heap.size w w') : dT lo hi w' v p:=by
 obtain ⟨h0,h|⟨gO,cap,cs,rfl,h⟩⟩:=h
 · exact ⟨h0,.inl h⟩
 · exact ⟨h0,.inr ⟨gO,cap,cs,rfl,h.below hb⟩⟩
theorem dT.drew {lo hi : Nat} {w : World} {v : Value} {p : Sg} (h : dT lo hi w v p) : dT lo hi w.drew v p:=h.below (bU w)
theorem dT.out {lo hi lo' hi' : Nat} {w w' : World} {v : Value} {p : Sg} (h : dT lo' hi' w v p) (hO : Outside lo hi w w') (hd : hi' ≤ lo ∨ hi ≤ lo') : dT lo' hi' w' v p:=by
 obtain ⟨h0,h|⟨gO,cap,cs,rfl,h⟩⟩:=h
 · exact ⟨h0,.inl h⟩
 · have h1:=h.glt
   have h2:=h.top
   exact ⟨h0,.inr ⟨gO,cap,cs,rfl,h.keep (mD h.row (hO.block _ h1.2 (by omega))) h.top fun v xs h=>aO.out h hO hd⟩⟩
set_option maxRecDepth 100000 in
theorem uq (s s' : Option Addr) (c c' : Nat) (w : World) : Calls Try.prog 16 #[.slice s 0 c,.slice s' 0 c'] w (Bb w true):=by
 go_enter Try.func16,Try.ntmps16
 go_wp2_with fail
 go_loopw [5] (fun i wr=>i = .int .i64 0 ∧ Below w.heap.size w wr) (fun i _=>0)
 case atStart=>exact ⟨rfl,Below.refl _ _⟩
 case round =>
  obtain ⟨rfl,hb⟩:=hrel
  go_wp2_with fail
  go_ret
  exact ⟨rfl,hb⟩
theorem iP {w : World} {u v : Value} {p : Sg} (hu : jU w u p) (hv : jU w v p) : Calls Try.prog 16 #[u,v] w (Bb w (tf (p = p))):=by
 rw [bg rfl]
 obtain ⟨h0,s,c,rfl,h⟩:=hu
 obtain ⟨_,s',c',rfl,h'⟩:=hv
 by_cases e : p.1 = 0
 · rw [e];exact uq _ _ _ _ _
 · obtain ⟨b,o,e1,hS⟩:=h.resolve_left e
   obtain ⟨b',o',e2,hS'⟩:=h'.resolve_left e
   subst e1;subst e2
   exact ui b o p.1 c b' o' c' p.2 w h0.1 hS hS'
set_option maxRecDepth 100000 in
theorem rj (s : Option Addr) (c : Nat) (k : Int) (w : World) : Calls Try.prog 17 #[.slice s 0 c,.int .i64 k] w fun e w'=>e = .returned (.int .i64 k) ∧ w = w':=by
 go_enter Try.func17,Try.ntmps17
 go_wp2_with fail
 go_loop [1,5] (fun q i=>q = .int .i64 k ∧ i = .int .i64 0) (fun _ i=>0)
 case atStart=>exact ⟨rfl,rfl⟩
 case round =>
  obtain ⟨rfl,rfl⟩:=hrel
  go_wp2_with fail
  go_ret
  exact ⟨rfl,rfl⟩
theorem nV {lo hi : Nat} {w : World} {v : Value} {p : Sg} (h : dT lo hi w v p) (k : Int) (h0 : 0 ≤ k) (hk : k ≤ 576460752303423488) : Calls Try.prog 17 #[v,.int .i64 k] w fun e w'=>e = .returned (.int .i64 (k + cE p.2 p.1)) ∧ dT lo hi w' v (pE p k) ∧ Outside lo hi w w':=by
 obtain ⟨ho,⟨rfl,h⟩|⟨gO,cap,cs,rfl,h⟩⟩:=h
 · refine (rj none 0 k w).mono ?_
   rintro e w' ⟨rfl,rfl⟩
   exact ⟨by rw [h];simp [cE],⟨s7 k ho,.inl ⟨rfl,h⟩⟩,Outside.refl _ _ _⟩
 · refine (nL h k h0 ho.1 (by have:=ho.2.2;omega) ho.2.1).mono ?_
   rintro e w' ⟨rfl,⟨cs',h'⟩,hO⟩
   exact ⟨rfl,⟨s7 k ho,.inr ⟨gO,cap,cs',rfl,h'⟩⟩,hO⟩
set_option maxRecDepth 100000 in
theorem rl (s : Option Addr) (c : Nat) (k : Int) (w : World) : Calls Try.prog 18 #[.slice s 0 c,.int .i64 k] w fun e w'=>e = .returned (.int .i64 k) ∧ w = w':=by
 go_enter Try.func18,Try.ntmps18
 go_wp2_with fail
 go_loop [1,5] (fun q i=>q = .int .i64 k ∧ i = .int .i64 0) (fun _ i=>0)
 case atStart=>exact ⟨rfl,rfl⟩
 case round =>
  obtain ⟨rfl,rfl⟩:=hrel
  go_wp2_with fail
  go_ret
  exact ⟨rfl,rfl⟩
theorem jV {w : World} {v : Value} (p : Sg) (k : Int) (h : jU w v (pE p k)) (h0 : 0 ≤ k) (hk : k ≤ 576460752303423488) : Calls Try.prog 18 #[v,.int .i64 k] w (Bi w (k + cE p.2 p.1)):=by
 obtain ⟨ho,s,c,rfl,h⟩:=h
 have ho' : nT p:=⟨ho.1,fun j hj=>by have:=ho.2.1 j hj;simp only [pE,iM,kJ] at this;exact this,by have:=ho.2.2;simp only [pE,nU] at this;exact this⟩
 by_cases e : p.1 = 0
 · show Calls _ _ #[.slice s p.1 c,_] w _
   rw [e]
   refine (rl s c k w).mono ?_
   rintro e w' ⟨rfl,rfl⟩
   exact ⟨by simp [cE],Below.refl _ _⟩
 · obtain ⟨b,o,e1,hS⟩:=h.resolve_left e
   subst e1
   refine (nJ b o p.1 c p.2 k w ho'.1 h0 (by have:=ho'.2.2;omega) ho'.2.1 hS).mono ?_
   rintro e w' ⟨rfl,rfl⟩
   exact ⟨rfl,Below.refl _ _⟩
def vR (w : World) (p : Sg) (e : Ending) (w' : World) : Prop:=∃ s n c,e = .returned (.slice s n c) ∧ dT w.heap.size w'.heap.size w' (.slice s n c) p ∧ Below w.heap.size w w'
def rm (w : World) (p : Sg) (e : Ending) (w' : World) : Prop:=∃ s n c,e = .returned (.slice s n c) ∧ jU w' (.slice s n c) p ∧ Below w.heap.size w w'
theorem vS {O : Nat → Prop} {w : World} {v : Value} {n : Nat} {f : Nat → St} (h : Rd O w (.V 3 (fW n fun k=>iO (f k))) v) : ∃ s c,v = .slice s n c ∧ (n = 0 ∨ ∃ b o,s = some ⟨b,o,none⟩ ∧ StgL w b o n f):=by
 generalize hc : C.V 3 (fW n fun k=>iO (f k)) = c at h
 cases h with
 | sl hv hn hc' hm h0 hs cell rec =>
   subst hc
   simp only [C.view,Nat.zero_lt_succ,if_true,Option.some.injEq] at hv
   subst hv
   simp only [jT] at *
   refine ⟨_,_,rfl,?_⟩
   rename_i sa cp vs
   by_cases e : n = 0
   · exact .inl e
   · right
     cases sa with
     | none => exact absurd (h0 rfl).1 e
     | some ad =>
       obtain ⟨e1,e2,e3⟩:=hs ad rfl (by omega)
       refine ⟨ad.block,ad.off,by rw [← e1],e3,fun k hk=>?_⟩
       have r0:=rec k hk 0 (by omega)
       have r1:=rec k hk 1 (by omega)
       have r2:=rec k hk 2 (by omega)
       have c0:=cell ad rfl k hk 0 (by omega)
       have c1:=cell ad rfl k hk 1 (by omega)
       have c2:=cell ad rfl k hk 2 (by omega)
       simp only [mF hk,rg,rh,ri] at r0 r1 r2
       obtain ⟨s0,n0,d0,q0,i0⟩:=pe r0.unn
       obtain ⟨s1,n1,d1,q1,i1⟩:=pe r1
       rw [q0] at c0
       rw [q1] at c1
       have q2 : vs k 2 = .int .i64 (f k).at_:=by
        revert r2
        generalize vs k 2 = u
        intro r2
        cases r2 with
        | int => rfl
        | sl hv' => simp [C.view] at hv'
       rw [q2] at c2
       exact ⟨s0,n0,d0,s1,n1,d1,by rw [Nat.add_zero] at c0;exact c0,by rw [Nat.add_assoc];exact c1,by rw [Nat.add_assoc];exact c2,i0,i1⟩
 | _ => cases hc
theorem rn {P : Program} {f : FuncId} {args : List AV} {w : World} {vs : List Value} (hF : ay P f args [] (fun _=>.c .nul)) (hv : AVs φ00 h00 w args vs) : Calls P f vs.toArray w fun e w'=>e = .returned (.slice none 0 0) ∧ Below w.heap.size w w':=by
 refine (hF.2 φ00 h00 w vs (fun _ _ h=>by cases h) (qB w) hv.at.1 hv.at.2).mono fun e w' ⟨v,he,ho⟩=>?_
 obtain ⟨φ',H,_,ha⟩:=ho [] rfl List.nodup_nil (fun _ h=>by cases h)
 have e1:=f7 ha
 subst e1
 exact ⟨he,H.fr⟩
theorem ro {P : Program} {f : FuncId} {args : List AV} {T : TypeId} {p : Sg} (hp : nT p) {w : World} {vs : List Value} (hF : ay P f args [.arr T .yes (.V 3 (fW p.1 fun k=>iO (p.2 k)))] (fun ns=>.sl (ns.getD 0 0))) (hv : AVs φ00 h00 w args vs) : Calls P f vs.toArray w (rm w p):=by
 refine (hF.2 φ00 h00 w vs (fun _ _ h=>by cases h) (qB w) hv.at.1 hv.at.2).mono fun e w' ⟨v,he,ho⟩=>?_
 obtain ⟨φ',H,_,ha⟩:=ho [0] rfl (by decide) (fun _ _=>rfl)
 have l0 : bX (bt h00 []) [0] [Ent.arr T .yes (.V 3 (fW p.1 fun k=>iO (p.2 k)))] 0 = some (.arr T .yes (.V 3 (fW p.1 fun k=>iO (p.2 k)))):=rfl
 have o0:=eH (O':=fun _=>False) (w':=w') (H.ent 0 _ l0) (fun b _ _=>⟨rfl,fun h=>h⟩) (Nat.le_refl _)
 have e1 : v = (φ' 0).val:=lA ha l0
 obtain ⟨s,c,q,hS⟩:=vS (Rd.unn o0)
 rw [q] at e1
 subst e1
 exact ⟨s,_,c,he,⟨hp,s,c,rfl,hS⟩,H.fr⟩
end Go.Proofs.Ytdkkhhfhdijfmaa
namespace Go.Proofs.Ytdkkhhfhdijfmaa
set_option linter.unusedVariables false
set_option linter.unusedSimpArgs false
open Go.RowKit
attribute [local irreducible] ay b9 Aw Le
attribute [local go_sem ↓] Go.wp_at_zero Go.wp_at_succ
open Classical in

noncomputable def sgN (g : Pa) : Sg:=if cJ g then (nS g + 1,itS g) else (0,itS g)
theorem lE {g : Pa} (h : cJ g) : sgN g = (nS g + 1,itS g):=if_pos h
theorem nW {g : Pa} (h : ¬ cJ g) : sgN g = (0,itS g):=if_neg h
theorem rp {f : Nat → St} {b : Nat} : ∀ n,(∀ k,k < n → (f k).won.length + (f k).region.length + 1 ≤ b) → cE f n ≤ n * b
 | 0, _ => Nat.zero_le _
 | n + 1, h => by
   have h1:=rp n fun k hk=>h k (by omega)
   have h2:=h n (by omega)
   rw [Nat.add_mul,Nat.one_mul]
   show cE f n + _ ≤ _
   omega
theorem rq (g : Pa) : nT (sgN g):=by
 by_cases hs : cJ g
 · rw [lE hs]
   have hn:=(kB hs).1
   have h2:=hs.2
   have hl : ∀ j,j < nS g + 1 → (itS g j).won.length ≤ 4096 ∧ (itS g j).region.length ≤ 4096:=fun j hj=>by
    have hO:=jQ hs (show j ≤ nS g by omega)
    exact ⟨by rw [hO.lw];omega,by rw [hO.lr];omega⟩
   refine ⟨by show nS g + 1 ≤ _;omega,fun j hj=>by have:=hl j hj;show (itS g j).won.length ≤ _ ∧ (itS g j).region.length ≤ _;omega,?_⟩
   have:=rp (f:=itS g) (b:=8193) (nS g + 1) fun k hk=>by have:=hl k hk;omega
   show cE (itS g) (nS g + 1) ≤ _
   omega
 · rw [nW hs]
   exact ⟨Nat.zero_le _,fun j hj=>absurd hj (Nat.not_lt_zero _),Nat.zero_le _⟩
theorem rr (x : Value) (g : Pa) (w : World) (hP : IsP w x g) : Calls Try.prog 25 #[x] w fun e w'=>e = .returned (.bool (tf (cJ g))) ∧ Below w.heap.size w w' :=
 sj (vs:=[x]) (md g) (.cons (nq hP) .nil)
theorem mH (g : Pa) (hs : ¬ cJ g) : ay Try.prog 15 [paA g] [] (fun _=>.c .nul):=by
 have h1:=md g
 rw [aB hs] at h1
 (refine bv aE Try.func15 rfl rfl (by kernel_rfl) fun hp0 ν hX hN=>?_;simp only [co,Nat.reduceAdd])
 (repeat' (first|(with_reducible first|(apply hK;clear hK K)|refine stZ ?_|refine aQ rfl ?_|((first|apply ae|apply af);clear ae X af Y))|(with_reducible refine aT ?_;first|refine aR rfl ?_|refine aS rfl ?_)|((with_reducible first|((first|refine aW ?_|refine aX ?_);intro K hK)|(refine aC ?_;intro X Y ae af)|refine aD ?_);simp (disch:=first|decide|omega|(simp only [List.length_cons,List.length_nil];omega)) only [go_sem,↓aj hN,am hN,reduceIte,reduceCtorEq,Nat.reduceAdd,Nat.reduceLT,Nat.reduceLeDiff,Nat.reduceEqDiff,Nat.reduceSub])|(with_reducible refine And.intro (fun h=>?_) (fun h=>?_) <;> try (exfalso;omega))|(with_reducible refine aV aE hN ?_)|(refine bd (h1) ?_ rfl (fun _=>rfl) ?_;focus ((repeat' (first|(with_reducible first|exact aA|refine ax ?_ ?_|exact bP _|refine a9 ?_|exact bc _|exact bA _ _|refine bz ?_|exact aZ _)|exact ba hN rfl rfl|(refine bw hN rfl ?_;first|exact aF _|exact aG _)|exact a8 rfl rfl rfl));done))|(with_reducible first|exact aA|refine ax ?_ ?_|exact bP _|refine a9 ?_|exact bc _|exact bA _ _|refine bz ?_|exact aZ _)|exact ba hN rfl rfl|(refine bw hN rfl ?_;first|exact aF _|exact aG _)|exact a8 rfl rfl rfl|(simp only [bt,List.map_nil])|(with_reducible refine bN ?_)|(with_reducible refine And.intro ?_ ?_)|(refine ah ?_;omega)|(exact aU hN (by decide))))
 (refine dL hN [] (by decide) (.inr rfl) (by first|exact cr rfl rfl|exact b8 hN rfl rfl rfl rfl|exact bR hN rfl rfl rfl rfl rfl|(simp (disch:=first|decide|omega|(simp only [List.length_cons,List.length_nil];omega)) only [bS,bV,bW,b7,go_sem,beq_self_eq_true,↓az,↓aj hN,am hN,reduceIte,reduceCtorEq,Nat.reduceAdd,Nat.reduceLT,Nat.reduceLeDiff,Nat.reduceEqDiff,Nat.reduceSub];rfl)|rfl) ?_ fun νs hνs=>?_;(repeat' (first|exact Gone.nil|(refine Gone.cons rfl rfl ?_ ?_)|(with_reducible refine cZ ?_)|(with_reducible refine cY ?_)|(with_reducible refine SVs.cons ?_ ?_)|(with_reducible exact SVs.nil)|(simp only [List.drop,List.take])|(simp (disch:=first|decide|omega) only [↓az,reduceIte,reduceCtorEq,Nat.reduceEqDiff])|(with_reducible exact fM _)|(with_reducible exact cW _)|(exact cX rfl rfl rfl)|(exact cx 0 (by simp) rfl rfl)|(refine dK hN rfl (c7 hN (by decide)) ?_)|(with_reducible refine dJ ?_)|(with_reducible rfl)|(with_reducible refine fN ?_)|(with_reducible refine fO ?_)|(with_reducible refine fP ?_)|(with_reducible refine fo ?_)|(with_reducible refine fQ ?_)|(refine ah ?_;omega))))
 all_goals rfl
set_option maxRecDepth 100000 in
theorem nX (x : Value) (g : Pa) (hs : cJ g) (w : World) (hP : IsP w x g) : Calls Try.prog 15 #[x] w (sY w g):=by
 have hP0:=hP
 obtain ⟨_,_,_,rfl,⟨s1,n1,c1,rfl,h1⟩,⟨s2,n2,c2,rfl,h2⟩,⟨s3,n3,c3,rfl,h3⟩⟩:=hP
 have k1:=Lib.hid (bg hs)
 have HS:=Lib.hid hs
 clear hs
 go_enter Try.func15,Try.ntmps15
 go_wp2_with fail
 have hB : Blk (w.alloc (.cells #[.slice s1 n1 c1,.slice s2 n2 c2,.slice s3 n3 c3] 32)) w.heap.size [.slice s1 n1 c1,.slice s2 n2 c2,.slice s3 n3 c3] 32:=eu _ _ _
 have hbw : Below w.heap.size w (w.alloc (.cells #[.slice s1 n1 c1,.slice s2 n2 c2,.slice s3 n3 c3] 32)):=aP _ _
 have hz : w.heap.size ≤ (w.alloc (.cells #[.slice s1 n1 c1,.slice s2 n2 c2,.slice s3 n3 c3] 32)).heap.size:=by simp
 generalize w.alloc (.cells #[.slice s1 n1 c1,.slice s2 n2 c2,.slice s3 n3 c3] 32) = w1 at *
 have b0:=hB.cell 0 rfl
 have b1:=hB.cell 1 rfl
 have b2:=hB.cell 2 rfl
 go_wp2_with (first
  | (go_at_call 25; refine (rr _ _ _ (hP0.below hbw)).mono ?_; rw [k1.out]; rintro e w2 ⟨rfl, hbw2⟩; replace b0 := aH b0 hbw2; replace b1 := aH b1 hbw2; replace b2 := aH b2 hbw2; replace hbw : Below w.heap.size w w2 := hbw.trans (hbw2.mono hbw.size); have hz2 := hbw2.size)
  | (go_at_call 26; refine (nK _ _ HS.out _ (hP0.below hbw)).mono ?_; rintro e w3 ⟨gO, cap, cs, rfl, hG, hbw3⟩; replace b0 := aH b0 hbw3; replace b1 := aH b1 hbw3; replace b2 := aH b2 hbw3; replace hbw : Below w.heap.size w w3 := hbw.trans (hbw3.mono hbw.size); have hz3 := hbw3.size))
 go_ret
 exact ⟨_,_,_,rfl,hG.mono (by omega) (Nat.le_refl _),hbw⟩
theorem jW (x : Value) (g : Pa) (w : World) (hP : IsP w x g) : Calls Try.prog 15 #[x] w (vR w (sgN g)):=by
 have hk:=rq g
 by_cases hs : cJ g
 · rw [lE hs] at hk ⊢
   refine (nX x g hs w hP).mono ?_
   rintro e w' ⟨gO,cap,cs,rfl,hG,hb⟩
   exact ⟨_,_,_,rfl,⟨hk,.inr ⟨gO,cap,cs,rfl,hG⟩⟩,hb⟩
 · rw [nW hs] at hk ⊢
   refine (rn (vs:=[x]) (mH g hs) (.cons (nq hP) .nil)).mono ?_
   rintro e w' ⟨rfl,hb⟩
   exact ⟨_,_,_,rfl,⟨hk,.inl ⟨rfl,rfl⟩⟩,hb⟩
theorem mI (g : Pa) : ay Try.prog 14 [paA g] [.arr 46 .yes (.V 3 (fW (sgN g).1 fun k=>iO ((sgN g).2 k)))] (fun ns=>.sl (ns.getD 0 0)):=by
 have h1:=qH g
 by_cases hs : cJ g
 · rw [bg hs] at h1
   rw [lE hs]
   have h2:=mG g hs
   (refine bv aE Try.func14 rfl rfl (by kernel_rfl) fun hp0 ν hX hN=>?_;simp only [co,Nat.reduceAdd])
   (repeat' (first|(with_reducible first|(apply hK;clear hK K)|refine stZ ?_|refine aQ rfl ?_|((first|apply ae|apply af);clear ae X af Y))|(with_reducible refine aT ?_;first|refine aR rfl ?_|refine aS rfl ?_)|((with_reducible first|((first|refine aW ?_|refine aX ?_);intro K hK)|(refine aC ?_;intro X Y ae af)|refine aD ?_);simp (disch:=first|decide|omega|(simp only [List.length_cons,List.length_nil];omega)) only [go_sem,↓aj hN,am hN,reduceIte,reduceCtorEq,Nat.reduceAdd,Nat.reduceLT,Nat.reduceLeDiff,Nat.reduceEqDiff,Nat.reduceSub])|(with_reducible refine And.intro (fun h=>?_) (fun h=>?_) <;> try (exfalso;omega))|(with_reducible refine aV aE hN ?_)|(refine bd (h1) ?_ rfl (fun _=>rfl) ?_;focus ((repeat' (first|(with_reducible first|exact aA|refine ax ?_ ?_|exact bP _|refine a9 ?_|exact bc _|exact bA _ _|refine bz ?_|exact aZ _)|exact ba hN rfl rfl|(refine bw hN rfl ?_;first|exact aF _|exact aG _)|exact a8 rfl rfl rfl));done))|(refine ji (h2) ?_ rfl rfl ?_;focus ((repeat' (first|(with_reducible first|exact aA|refine ax ?_ ?_|exact bP _|refine a9 ?_|exact bc _|exact bA _ _|refine bz ?_|exact aZ _)|exact ba hN rfl rfl|(refine bw hN rfl ?_;first|exact aF _|exact aG _)|exact a8 rfl rfl rfl));done))|(with_reducible first|exact aA|refine ax ?_ ?_|exact bP _|refine a9 ?_|exact bc _|exact bA _ _|refine bz ?_|exact aZ _)|exact ba hN rfl rfl|(refine bw hN rfl ?_;first|exact aF _|exact aG _)|exact a8 rfl rfl rfl|(simp only [bt,List.map_nil])|(with_reducible refine bN ?_)|(with_reducible refine And.intro ?_ ?_)|(refine ah ?_;omega)|(exact aU hN (by decide))))
   (refine cV hN (i:=1) (.inr rfl) (by first|rfl|(simp (disch:=first|decide|omega|(simp only [List.length_cons,List.length_nil];omega)) only [bS,bV,bW,b7,go_sem,beq_self_eq_true,↓az,↓aj hN,am hN,reduceIte,reduceCtorEq,Nat.reduceAdd,Nat.reduceLT,Nat.reduceLeDiff,Nat.reduceEqDiff,Nat.reduceSub];rfl)) rfl ?_ rfl)
   all_goals rfl
 · rw [aB hs] at h1
   rw [nW hs]
   (refine bv aE Try.func14 rfl rfl (by kernel_rfl) fun hp0 ν hX hN=>?_;simp only [co,Nat.reduceAdd])
   (repeat' (first|(with_reducible first|(apply hK;clear hK K)|refine stZ ?_|refine aQ rfl ?_|((first|apply ae|apply af);clear ae X af Y))|(with_reducible refine aT ?_;first|refine aR rfl ?_|refine aS rfl ?_)|((with_reducible first|((first|refine aW ?_|refine aX ?_);intro K hK)|(refine aC ?_;intro X Y ae af)|refine aD ?_);simp (disch:=first|decide|omega|(simp only [List.length_cons,List.length_nil];omega)) only [go_sem,↓aj hN,am hN,reduceIte,reduceCtorEq,Nat.reduceAdd,Nat.reduceLT,Nat.reduceLeDiff,Nat.reduceEqDiff,Nat.reduceSub])|(with_reducible refine And.intro (fun h=>?_) (fun h=>?_) <;> try (exfalso;omega))|(with_reducible refine aV aE hN ?_)|(refine bd (h1) ?_ rfl (fun _=>rfl) ?_;focus ((repeat' (first|(with_reducible first|exact aA|refine ax ?_ ?_|exact bP _|refine a9 ?_|exact bc _|exact bA _ _|refine bz ?_|exact aZ _)|exact ba hN rfl rfl|(refine bw hN rfl ?_;first|exact aF _|exact aG _)|exact a8 rfl rfl rfl));done))|(with_reducible first|exact aA|refine ax ?_ ?_|exact bP _|refine a9 ?_|exact bc _|exact bA _ _|refine bz ?_|exact aZ _)|exact ba hN rfl rfl|(refine bw hN rfl ?_;first|exact aF _|exact aG _)|exact a8 rfl rfl rfl|(simp only [bt,List.map_nil])|(with_reducible refine bN ?_)|(with_reducible refine And.intro ?_ ?_)|(refine ah ?_;omega)|(exact aU hN (by decide))))
   (refine cV hN (i:=1) (.inr rfl) (by first|rfl|(simp (disch:=first|decide|omega|(simp only [List.length_cons,List.length_nil];omega)) only [bS,bV,bW,b7,go_sem,beq_self_eq_true,↓az,↓aj hN,am hN,reduceIte,reduceCtorEq,Nat.reduceAdd,Nat.reduceLT,Nat.reduceLeDiff,Nat.reduceEqDiff,Nat.reduceSub];rfl)) rfl ?_ rfl)
   all_goals rfl
theorem nY (x : Value) (g : Pa) (w : World) (hP : IsP w x g) : Calls Try.prog 14 #[x] w (rm w (sgN g)) :=
 ro (vs:=[x]) (rq g) (mI g) (.cons (nq hP) .nil)
end Go.Proofs.Ytdkkhhfhdijfmaa
