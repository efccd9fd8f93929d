/-
  Queries, the program: the asker and what it knows.
-/
import Derived.Test.YthjamlponejffaaZhNC
namespace Go.Proofs.Ythjamlponejffaa
set_option linter.unusedVariables false
set_option linter.unusedSimpArgs false
open Go.RowKit
def qkV (b : Nat) (who d mine yours : Int) : Value:=.agg #[.int .i64 b,.int .i64 who,.int .i64 d,.int .i64 mine,.int .i64 yours]
theorem uD {b b' : Nat} {who who' d d' mine mine' yours yours' : Int} (h : qkV b who d mine yours = qkV b' who' d' mine' yours') : b = b' ∧ who = who' ∧ d = d' ∧ mine = mine' ∧ yours = yours':=by
 simp only [qkV,Value.agg.injEq,Array.mk.injEq,List.cons.injEq,Value.int.injEq,true_and,and_true] at h
 obtain ⟨h1,h2⟩:=h
 exact ⟨by omega,h2⟩
theorem xY : (102 : TypeId) < Try.prog.types.size:=of_decide_eq_true (by kernel_rfl)
theorem xZ : laidOutB Try.prog = true:=by kernel_rfl
theorem x0 : (match Try.prog.underlying 102 with|some (.array _ _)|some (.struct _)=>true | _=>false) = true:=by rw [Try.underlying102]
theorem zi : Try.prog.keyTypeAt 2 102 = true:=by kernel_rfl
set_option maxRecDepth 20000 in
theorem uE : Maps.Keyed Try.prog 102:=Maps.Keyed.of_law (deep_law_laid xZ (m:=2) (by omega) xY zi x0)
theorem x4 : Try.prog.keyType 102 = true:=by kernel_rfl
theorem sD : Try.prog.cellsOf 102 = 5:=by kernel_rfl
theorem x5 : Try.prog.cellsOf 2 = 1:=by kernel_rfl
theorem wfQ {x : Int} (h : -9223372036854775808 ≤ x ∧ x ≤ 9223372036854775807) : (Lit.int .i64 x).wf = true:=WalkArith.wf_i64 h
theorem zj (b : Nat) (who d mine yours : Int) (hb : b < 4096) (hw : who = 0 ∨ who = 1) (hd : 0 ≤ d ∧ d < 64) (hm : 0 ≤ mine ∧ mine < 16) (hy : 0 ≤ yours ∧ yours < 16) : ∃ l,keyOf Try.prog 102 (qkV b who d mine yours) = some l:=by
 obtain ⟨m,hs⟩ : ∃ m,Try.prog.types.size = m + 1:=⟨Try.prog.types.size - 1,by have h : (102 : Nat) < Try.prog.types.size:=xY;omega⟩
 have hf : (qkV b who d mine yours).formed Try.prog 102 = true:=by simp [qkV,Value.formed,Try.underlying102,sD]
 have h1 : ∀ x : Int,(-9223372036854775808 ≤ x ∧ x ≤ 9223372036854775807) → Try.prog.keyLits (m + 1) 2 [.int .i64 x] = some [.int .i64 x]:=fun x hx=>by
  simp [Program.keyLits,Try.underlying2,wfQ hx]
 have e1:=h1 b (by omega)
 have e2:=h1 who (by omega)
 have e3:=h1 d (by omega)
 have e4:=h1 mine (by omega)
 have e5:=h1 yours (by omega)
 rw [keyOf,Try.underlying102]
 simp only [x4,hf,Bool.and_self,if_true,hs]
 have hk : Try.prog.keyLits (m + 1 + 1) 102 (qkV b who d mine yours).cells.toList = some [.int .i64 b,.int .i64 who,.int .i64 d,.int .i64 mine,.int .i64 yours]:=by
  unfold Program.keyLits
  simp [qkV,Try.underlying102,Value.cells,sD,x5,e1,e2,e3,e4,e5]
 exact ⟨_,by rw [hk];rfl⟩
def g6 (bm : Nat) (w : World) (v : Value) (xs : List Int) : Prop:=IsI w v xs ∧ ∀ q,blk v = some q → bm < q
theorem g6.mv {b bm : Nat} {w w' : World} {v : Value} {xs : List Int} (h : g6 bm w v xs) (hb : Mv b w w') : g6 bm w' v xs:=⟨h.1.mv hb,h.2⟩
theorem g6.below {bm : Nat} {w w' : World} {v : Value} {xs : List Int} (h : g6 bm w v xs) (hb : Below w.heap.size w w') : g6 bm w' v xs:=⟨h.1.below hb,h.2⟩
theorem bp.far {lo hi bm : Nat} {w : World} {v : Value} {xs : List Int} (h : bp lo hi w v xs) (hl : bm < lo) : g6 bm w v xs:=⟨h.is,fun q hq=>Nat.lt_of_lt_of_le hl (bp.blks h q hq).1⟩
theorem px (bm : Nat) (w : World) : g6 bm w (.slice none 0 0) []:=⟨⟨none,0,0,rfl,ri w⟩,fun q h=>by cases h⟩
def fQ (w : World) (bm : Nat) (g : Pa) (D : Dm) : Prop:=∀ p,p ∈ r9 D → ∃ (S : Nat → Prop) (who : Int) (d : Nat) (mine yours : Int) (v : Value),(∀ u,S u → u < g.prio.length) ∧ (who = 0 ∨ who = 1) ∧ d < 64 ∧ (0 ≤ mine ∧ mine < 16) ∧ (0 ≤ yours ∧ yours < 16) ∧
 keyOf Try.prog 102 (qkV (fe (lst S g.prio.length) (lst S g.prio.length).length) who d mine yours) = some p.1 ∧ p.2 = .held v ∧ g6 bm w v (lst (qA (pgA g) g.prio.length (d + 1) who S mine yours) g.prio.length)
theorem py {g : Pa} (hs : g.prio.length ≤ 12) (S : Nat → Prop) : fe (lst S g.prio.length) (lst S g.prio.length).length < 4096:=lX fun j hj=>by
 obtain ⟨u,h1,h2,h3⟩:=cW.1 (cy hj)
 omega
theorem fQ.get {w : World} {bm : Nat} {g : Pa} {D : Dm} (h : fQ w bm g D) (hD : Maps.IsMap D) {S : Nat → Prop} {who : Int} {d : Nat} {mine yours : Int} (hS : ∀ u,S u → u < g.prio.length) {kl : Lit}
  (hk : keyOf Try.prog 102 (qkV (fe (lst S g.prio.length) (lst S g.prio.length).length) who d mine yours) = some kl) (hh : Maps.has D kl = true) {z : Dm} {v : Value} {ps : List MemPlace} (hv : rdV v = some (D.atKey kl z,ps)) :
  g6 bm w v (lst (qA (pgA g) g.prio.length (d + 1) who S mine yours) g.prio.length):=by
 obtain ⟨p,h1,h2,h3⟩:=t9 hD hh z
 obtain ⟨S',who',d',mine',yours',v',hS',_,_,_,_,hk',e,hI⟩:=h p h1
 rw [h2] at hk'
 obtain ⟨a1,rfl,a3,rfl,rfl⟩:=uD (uE.inj hk' hk)
 obtain rfl : d' = d:=by omega
 obtain rfl:=uB hS' hS a1
 rw [h3,e] at hv
 rw [← pc hv]
 exact hI
theorem fQ.keep {w w' : World} {bm : Nat} {g : Pa} {D : Dm} (h : fQ w bm g D) (hI : ∀ v xs,IsI w v xs → IsI w' v xs) : fQ w' bm g D:=fun p hp=>by
 obtain ⟨S',who',d',mine',yours',v',a,b,c,d,e,f,i,j⟩:=h p hp
 exact ⟨S',who',d',mine',yours',v',a,b,c,d,e,f,i,hI _ _ j.1,j.2⟩
theorem fQ.put {w : World} {bm : Nat} {g : Pa} {D : Dm} (h : fQ w bm g D) (hD : Maps.IsMap D) {S : Nat → Prop} {who : Int} {d : Nat} {mine yours : Int} (hS : ∀ u,S u → u < g.prio.length) (hw : who = 0 ∨ who = 1) (hd : d < 64) (hm : 0 ≤ mine ∧ mine < 16) (hy : 0 ≤ yours ∧ yours < 16) {kl : Lit}
  (hk : keyOf Try.prog 102 (qkV (fe (lst S g.prio.length) (lst S g.prio.length).length) who d mine yours) = some kl) {v : Value} (hI : g6 bm w v (lst (qA (pgA g) g.prio.length (d + 1) who S mine yours) g.prio.length)) : fQ w bm g (D.put kl (.held v)):=fun p hp=>by
 rcases ub hD hp with rfl|hp
 · exact ⟨S,who,d,mine,yours,v,hS,hw,hd,hm,hy,hk,rfl,hI⟩
 · exact h p hp
noncomputable def x6 (c : Nat) : Lit:=(keyOf Try.prog 102 (qkV (c % 4096) ((c / 4096 % 2 : Nat) : Int) ((c / 8192 % 64 : Nat) : Int) ((c / 524288 % 16 : Nat) : Int) ((c / 8388608 : Nat) : Int))).getD (.bool false)
theorem fQ.few {w : World} {bm : Nat} {g : Pa} {D : Dm} (h : fQ w bm g D) (hs : g.prio.length ≤ 12) (ht : Maps.Tidy D) : Maps.size D ≤ 134217728:=by
 refine uc ht (by omega) (f:=x6) fun p hp=>?_
 obtain ⟨S,who,d,mine,yours,v,hS,hw,hd,hm,hy,hk,_⟩:=h p hp
 have hb:=py hs S
 generalize fe (lst S g.prio.length) (lst S g.prio.length).length = b at *
 refine ⟨b + 4096 * who.toNat + 8192 * d + 524288 * mine.toNat + 8388608 * yours.toNat,by omega,?_⟩
 unfold x6
 rw [show (b + 4096 * who.toNat + 8192 * d + 524288 * mine.toNat + 8388608 * yours.toNat) % 4096 = b by omega,
  show (((b + 4096 * who.toNat + 8192 * d + 524288 * mine.toNat + 8388608 * yours.toNat) / 4096 % 2 : Nat) : Int) = who by omega,
  show (((b + 4096 * who.toNat + 8192 * d + 524288 * mine.toNat + 8388608 * yours.toNat) / 8192 % 64 : Nat) : Int) = d by omega,
  show (((b + 4096 * who.toNat + 8192 * d + 524288 * mine.toNat + 8388608 * yours.toNat) / 524288 % 16 : Nat) : Int) = mine by omega,
  show (((b + 4096 * who.toNat + 8192 * d + 524288 * mine.toNat + 8388608 * yours.toNat) / 8388608 : Nat) : Int) = yours by omega,hk]
 rfl
structure Ask (w : World) (bs bm : Nat) (g : Pa) : Prop where
 cells : ∃ so no co sn nn cn sp np cp,w.cell? ⟨bs,0,none⟩ = some (.slice so no co) ∧ w.cell? ⟨bs,1,none⟩ = some (.slice sn nn cn) ∧ w.cell? ⟨bs,2,none⟩ = some (.slice sp np cp) ∧ IsP w (.agg #[.slice so no co,.slice sn nn cn,.slice sp np cp]) g
 mp : w.cell? ⟨bs,3,none⟩ = some (.map (some bm))
 own : ∃ k D,w.ownsMap Try.prog 102 rdV bm k D ∧ fQ w bm g D
theorem Ask.mvb {w w' : World} {bs bm : Nat} {g : Pa} (h : Ask w bs bm g) (hb : Below w.heap.size w w') : Mv bm w w':=let ⟨_,_,h,_⟩:=h.own;ud h hb
theorem Ask.lt {w : World} {bs bm : Nat} {g : Pa} (h : Ask w bs bm g) : bm < w.heap.size:=let ⟨_,_,h,_⟩:=h.own;h.lt
theorem Ask.below {w w' : World} {bs bm : Nat} {g : Pa} (h : Ask w bs bm g) (hb : Below w.heap.size w w') : Ask w' bs bm g:=by
 have hm:=h.mvb hb
 obtain ⟨⟨so,no,co,sn,nn,cn,sp,np,cp,h0,h1,h2,hP⟩,h3,k,D,hD,hM⟩:=h
 exact ⟨⟨so,no,co,sn,nn,cn,sp,np,cp,hm.cell h0,hm.cell h1,hm.cell h2,hP.below hb⟩,hm.cell h3,k,D,qz hD hb,hM.keep fun v xs hI=>hI.below hb⟩
theorem Ask.turn {w w' : World} {bs bm : Nat} {g : Pa} (h : Ask w bs bm g) (hm : Mv bm w w') {k : Nat} {D : Dm} (hD : w'.ownsMap Try.prog 102 rdV bm k D) (hM : fQ w' bm g D) : Ask w' bs bm g:=by
 obtain ⟨⟨so,no,co,sn,nn,cn,sp,np,cp,h0,h1,h2,hP⟩,h3,_⟩:=h
 exact ⟨⟨so,no,co,sn,nn,cn,sp,np,cp,hm.cell h0,hm.cell h1,hm.cell h2,hP.mv hm⟩,hm.cell h3,k,D,hD,hM⟩
def u6 (w : World) (bs bm : Nat) (g : Pa) (xs : List Int) (e : Ending) (w' : World) : Prop:=∃ s n c,e = .returned (.slice s n c) ∧ g6 bm w' (.slice s n c) xs ∧ Ask w' bs bm g ∧ Mv bm w w'
def x7 (w : World) (bs bm : Nat) (g : Pa) (xs : List Int) (e : Ending) (w' : World) : Prop:=∃ s n c,e = .returned (.slice s n c) ∧ bp w.heap.size w'.heap.size w' (.slice s n c) xs ∧ Ask w' bs bm g ∧ Mv bm w w'
end Go.Proofs.Ythjamlponejffaa
