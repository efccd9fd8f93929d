/-
  The reference's attraction.
-/
import Derived.Test.YthjamlponejffaaZiE7
import Derived.Test.YthjamlponejffaaZiCe
import Derived.Test.YthjamlponejffaaZiCp
namespace Go.Proofs.Ythjamlponejffaa
set_option linter.unusedVariables false
set_option linter.unusedSimpArgs false
open Go.RowKit
attribute [local irreducible] ap b9 Aw Le
def cR (g : Gm) (n : Nat) : PG.Gm where
 own v:=if gi g.own v = 1 then 1 else 0
 prio v:=if 0 ≤ gi g.prio v ∧ gi g.prio v ≤ 40 then gi g.prio v else 0
 E v u:=v < n ∧ u < n ∧ edg g v u = true ∧ ∃ t,t < (gr g.nxt v).length ∧ gi (gr g.nxt v) t = (u : Int)
 own01 v:=by split <;> simp
 bnd:=⟨40,fun v=>by split <;> omega⟩
 nn v:=by split <;> omega
theorem rf {g : Gm} {n : Nat} (hg : GmOk g n) : Gr (cR g n) n (gr g.nxt) (gr g.prev) (fun v u=>edg g v u = true) :=
 ⟨fun v u=>Iff.rfl,fun v s t hv=>hg.nu v s t hv,fun v t hv ht=>(hg.nx v hv).2 t ht,hg.pvi,fun u s t hu=>hg.pu u s t hu,fun u t hu ht=>(hg.pv u hu).2 t ht⟩
theorem pD {g : Gm} {n v : Nat} (hg : GmOk g n) (hv : v < n) : (cR g n).own v = gi g.own v:=by
 have:=hg.o1 v hv
 show (if gi g.own v = 1 then (1 : Int) else 0) = _
 split <;> omega
theorem fI {g : Gm} {n v : Nat} (hg : GmOk g n) (hv : v < n) : (cR g n).prio v = gi g.prio v:=if_pos (hg.p1 v hv)
theorem qT {g : Gm} {n : Nat} (hg : GmOk g n) (inn : List Bool) {v : Nat} (hv : v < n) : (deg g inn v) = rem (gr g.nxt) (fun v u=>edg g v u = true) (fun v=>gb inn v = true) (fun _ _=>False) v:=by
 have key : ∀ k,k ≤ (gr g.nxt v).length → eg g inn v k = num (fun t=>(gb inn (gi (gr g.nxt v) t).toNat = true ∧ edg g v (gi (gr g.nxt v) t).toNat = true) ∧ ¬ False) k:=by
  intro k
  induction k with
  | zero => intro _; rfl
  | succ k ih =>
    intro hk
    have h0:=((hg.nx v hv).2 k (by omega)).1
    have e : (((gi (gr g.nxt v) k).toNat : Nat) : Int) = gi (gr g.nxt v) k:=Int.toNat_of_nonneg h0
    rw [eg,ih (by omega),Int.toNat_natCast]
    by_cases hp : (gb inn (gi (gr g.nxt v) k).toNat = true ∧ edg g v (gi (gr g.nxt v) k).toNat = true) ∧ ¬ False
    · rw [bP hp,if_pos (by rw [e] at hp;rw [hp.1.1,hp.1.2];rfl)]
    · rw [cM hp,if_neg (fun h=>hp ⟨by rw [e];simpa using h,fun h=>h⟩)];rfl
 exact key _ (Nat.le_refl _)
theorem pE (bs : List Bool) : ∀ k,(cX bs k).length = num (fun v=>gb bs v = true) k:=by
 intro k
 induction k with
 | zero => rfl
 | succ k ih =>
   rw [cX,List.length_append,ih]
   by_cases h : gb bs k = true
   · rw [bP h,if_pos h];rfl
   · rw [cM h,if_neg h];rfl
theorem mn (bs : List Bool) : ∀ k,(cX bs k).Nodup:=by
 intro k
 induction k with
 | zero => exact List.nodup_nil
 | succ k ih =>
   rw [cX]
   split
   · rw [List.nodup_append]
     refine ⟨ih,by simp,fun x hx y hy=>?_⟩
     obtain ⟨v,h1,h2,_⟩:=iS.1 hx
     simp at hy
     omega
   · rw [List.append_nil];exact ih
theorem sc {n k : Nat} {f d : Nat → Int} (hv : f k = d k) : (tab n fun i=>if i < k + 1 then f i else d i) = tab n fun i=>if i < k then f i else d i :=
 ci fun j hj=>by
  by_cases e : j = k
  · subst e;rw [if_pos (by omega),if_neg (by omega),hv]
  · by_cases h : j < k
    · rw [if_pos (by omega),if_pos h]
    · rw [if_neg (by omega),if_neg h]
theorem mY {n k : Nat} {f d : Nat → Bool} (hv : f k = d k) : (bZ n fun i=>if i < k + 1 then f i else d i) = bZ n fun i=>if i < k then f i else d i :=
 cC fun j hj=>by
  by_cases e : j = k
  · subst e;rw [if_pos (by omega),if_neg (by omega),hv]
  · by_cases h : j < k
    · rw [if_pos (by omega),if_pos h]
    · rw [if_neg (by omega),if_neg h]
theorem pF {b : Bool} (h : b = false) : ¬ b = true:=by rw [h];exact Bool.noConfusion
theorem jc {g : Gm} {n : Nat} (hg : GmOk g n) {inn goal : List Bool} (hi : inn.length = n) (who : Int) (ht : PG.Total (cR g n) fun v=>gb inn v = true) :
  AInv (cR g n) n (gr g.nxt) (gr g.prev) (fun v u=>edg g v u = true) who (fun v=>gb inn v = true) (fun v=>gb goal v = true) false (cX (bZ n fun v=>gb inn v && gb goal v) n) 0 0 (bZ n fun v=>gb inn v && gb goal v) (tab n fun v=>if gb inn v = true then (deg g inn v : Int) else 0):=by
 have hS : ∀ v,gb inn v = true → v < n:=fun v h=>by
  rcases Nat.lt_or_ge v n with h'|h'
  · exact h'
  · rw [gb,List.getD_eq_getElem?_getD,List.getElem?_eq_none (by omega)] at h;cases h
 have hm : ∀ j,j < (cX (bZ n fun v=>gb inn v && gb goal v) n).length → ∃ v,v < n ∧ gi (cX (bZ n fun v=>gb inn v && gb goal v) n) j = (v : Int) ∧ gb (bZ n fun v=>gb inn v && gb goal v) v = true:=fun j hj=>iS.1 (dz hj)
 refine AInv.start (rf hg) hS ht (cI _ _) (bD _ _) (pE _ _) (fun j hj=>?_) (fun a b ha hb e=>iQ (mn _ _) ha hb e) (fun v hv hb=>dS (iS.2 ⟨v,hv,rfl,hb⟩)) (fun v hv=>by rw [cT _ hv];simp) (fun v hv _=>.inl ?_)
 · obtain ⟨v,h1,h2,h3⟩:=hm j hj
   rw [h2,Int.toNat_natCast]
   exact ⟨by omega,by omega,h3⟩
 · rw [bH _ (hS v hv),if_pos hv,qT hg inn (hS v hv)]
set_option maxHeartbeats 4000000 in
theorem gY (g : Gm) (n : Nat) (hg : GmOk g n) (inn goal : List Bool) (hi : inn.length = n) (hgl : goal.length = n) (who : Int) (ht : PG.Total (cR g n) fun v=>gb inn v = true) :
  ap Try.prog 94 [gmA g,.c (.B inn),.c (.int .i64 who),.c (.B goal)] [.arr 4 .yes (.B (mks n (PG.Attr (cR g n) who (fun v=>gb inn v = true) (fun v=>gb goal v = true))))] (fun ns=>.sl (ns.getD 0 0)):=by
 have hle:=hg.le
 have hgo:=hg.own
 have hgp:=hg.prev
 have hgk:=hg.pick
 (refine bA aQ Try.func94 rfl rfl (by kernel_rfl) fun hp0 ν hX hN=>?_;simp only [cG,Nat.reduceAdd])
 (repeat' (first|(with_reducible first|(apply hK;clear hK K)|refine stZ ?_|refine aZ rfl ?_|((first|apply ae|apply af);clear ae X af Y))|(with_reducible refine bc ?_;first|refine a8 rfl ?_|refine ba rfl ?_)|(with_reducible refine bG ?_;first|refine bo rfl rfl rfl rfl ?_|refine bF rfl rfl rfl ?_|refine bX rfl rfl rfl rfl ?_)|((first|(with_reducible first|((first|refine bf ?_|refine bg ?_);intro K hK)|(refine aN ?_;intro X Y ae af)|refine aO ?_)|(with_reducible refine bG ?_;refine bp rfl rfl fun X Y ae af=>?_));simp (disch:=first|decide|omega|(simp only [List.length_cons,List.length_nil];omega)) only [go_sem,↓ah hN,ak hN,reduceIte,reduceCtorEq,Nat.reduceAdd,Nat.reduceLT,Nat.reduceLeDiff,Nat.reduceEqDiff,Nat.reduceSub])|(with_reducible refine And.intro (fun h=>?_) (fun h=>?_) <;> try (exfalso;omega))|(with_reducible refine be aQ hN ?_)|(with_reducible refine And.intro ?_ ?_)|(refine aj ?_;omega)|(exact bd hN (by decide))))
 (refine cf (fun (k : Nat)=>(tmL [(12,.c (.int .i64 k)),(11,.sl (ν 3)),(10,.sl (ν 2)),(9,.sl (ν 1)),(4,.ad (ν 0) 0),(1,.c (.B inn)),(2,.c (.int .i64 who)),(3,.c (.B goal))],hpL hp0 ν [.box [.c (.I g.own),.c (.I g.prio),.c (.R g.nxt),.c (.R g.prev),.c (.I g.pick)],.arr 4 .yes (.B (bZ n fun v=>if v < k then gb inn v && gb goal v else false)),.arr 2 .yes (.I (tab n fun v=>if v < k then (if gb inn v then (deg g inn v : Int) else 0) else 0)),.arr 2 .yes (.I (cX (bZ n fun v=>gb inn v && gb goal v) k))])) (fun (k : Nat)=>k ≤ n) (fun (k : Nat)=>n - k) ⟨0,?_,bE hX hN [] ?_ ?_⟩ ?_;(repeat' (first|(with_reducible first|exact clZ|refine bv ?_ ?_|refine bw ?_ ?_|rfl|refine suZ ?_)|refine bz rfl ?_ ?_|exact aU hN _ rfl rfl rfl|exact aV hN _ rfl rfl rfl|exact az hN _ rfl rfl rfl (Or.inr rfl)|(refine aW hN _ rfl rfl (by first|exact Or.inr rfl|exact Or.inl rfl) ?_;first|exact aF _|exact aG _)|refine aA hN rfl ?_|refine aB hN rfl rfl ?_|exact ay hN _ rfl rfl|exact aC hN rfl rfl rfl rfl|(with_reducible first|refine stZ ?_|refine aT ?_)));(try (any_goals (first|(with_reducible rfl)|(refine aj ?_;omega)))))
 · rw [hi];exact dc n fun v=>gb inn v && gb goal v
 · rw [hi];exact pb n fun v=>if gb inn v = true then (deg g inn v : Int) else 0
 · rfl
 · intro k hk
   have hlen:=iR (bZ n fun v=>gb inn v && gb goal v) k
   have hgk' : k < n → gb (bZ n fun v=>gb inn v && gb goal v) k = (gb inn k && gb goal k):=fun h=>cT _ h
   (repeat' (first|(with_reducible first|(apply hK;clear hK K)|refine stZ ?_|refine aZ rfl ?_|((first|apply ae|apply af);clear ae X af Y))|(with_reducible refine bc ?_;first|refine a8 rfl ?_|refine ba rfl ?_)|(with_reducible refine bG ?_;first|refine bo rfl rfl rfl rfl ?_|refine bF rfl rfl rfl ?_|refine bX rfl rfl rfl rfl ?_)|((first|(with_reducible first|((first|refine bf ?_|refine bg ?_);intro K hK)|(refine aN ?_;intro X Y ae af)|refine aO ?_)|(with_reducible refine bG ?_;refine bp rfl rfl fun X Y ae af=>?_));simp (disch:=first|decide|omega|(simp only [List.length_cons,List.length_nil];omega)) only [go_sem,↓ah hN,ak hN,reduceIte,reduceCtorEq,Nat.reduceAdd,Nat.reduceLT,Nat.reduceLeDiff,Nat.reduceEqDiff,Nat.reduceSub])|(with_reducible refine And.intro (fun h=>?_) (fun h=>?_) <;> try (exfalso;omega))|(with_reducible refine be aQ hN ?_)|(refine br (iP g n hg inn hi k (by omega) (by omega)) ?_ rfl (fun _=>rfl) ?_)|(with_reducible first|exact aq|refine am ?_ ?_|exact bL _|refine aR ?_|exact aL _|exact bn _ _|refine bm ?_|exact aJ _)|exact aS hN rfl rfl|(refine bj hN rfl ?_;first|exact aF _|exact aG _)|exact aK rfl rfl rfl|(simp only [aI,List.map_nil])|(with_reducible refine bI ?_)|(with_reducible refine And.intro ?_ ?_)|(refine aj ?_;omega)|(exact bd hN (by decide))))
   · have hk' : k < n:=by omega
     have h1 : gb inn k = true:=by assumption
     have h2 : gb goal k = true:=by assumption
     (refine ⟨k + 1,⟨?_,?_⟩,bE hX hN [(3,5)] ?_ ?_⟩;(try any_goals dsimp only);(repeat' (first|(with_reducible first|exact clZ|refine bv ?_ ?_|refine bw ?_ ?_|rfl|refine suZ ?_)|refine bz rfl ?_ ?_|exact aU hN _ rfl rfl rfl|exact aV hN _ rfl rfl rfl|exact az hN _ rfl rfl rfl (Or.inr rfl)|(refine aW hN _ rfl rfl (by first|exact Or.inr rfl|exact Or.inl rfl) ?_;first|exact aF _|exact aG _)|refine aA hN rfl ?_|refine aB hN rfl rfl ?_|exact ay hN _ rfl rfl|exact aC hN rfl rfl rfl rfl|(with_reducible first|refine stZ ?_|refine aT ?_)));(try (any_goals (first|(with_reducible rfl)|(refine aj ?_;omega)))))
     · exact ee (f:=fun v=>gb inn v && gb goal v) (d:=fun _=>false) hk' (by simp [h1,h2])
     · exact pc (f:=fun v=>if gb inn v = true then (deg g inn v : Int) else 0) (d:=fun _=>0) hk' (by simp [h1])
     · simp [cX,hgk' hk',h1,h2]
   · have hk' : k < n:=by omega
     have h1 : gb inn k = true:=by assumption
     have h2 : gb goal k = false:=by assumption
     (refine ⟨k + 1,⟨?_,?_⟩,bE hX hN [] ?_ ?_⟩;(try any_goals dsimp only);(repeat' (first|(with_reducible first|exact clZ|refine bv ?_ ?_|refine bw ?_ ?_|rfl|refine suZ ?_)|refine bz rfl ?_ ?_|exact aU hN _ rfl rfl rfl|exact aV hN _ rfl rfl rfl|exact az hN _ rfl rfl rfl (Or.inr rfl)|(refine aW hN _ rfl rfl (by first|exact Or.inr rfl|exact Or.inl rfl) ?_;first|exact aF _|exact aG _)|refine aA hN rfl ?_|refine aB hN rfl rfl ?_|exact ay hN _ rfl rfl|exact aC hN rfl rfl rfl rfl|(with_reducible first|refine stZ ?_|refine aT ?_)));(try (any_goals (first|(with_reducible rfl)|(refine aj ?_;omega)))))
     · exact mY (f:=fun v=>gb inn v && gb goal v) (d:=fun _=>false) (by simp [h1,h2])
     · exact pc (f:=fun v=>if gb inn v = true then (deg g inn v : Int) else 0) (d:=fun _=>0) hk' (by simp [h1])
     · simp [cX,hgk' hk',h1,h2]
   · simp_all
   · simp_all
   · simp_all
   · have hk' : k < n:=by omega
     have h1 : gb inn k = false:=by assumption
     (refine ⟨k + 1,⟨?_,?_⟩,bE hX hN [] ?_ ?_⟩;(try any_goals dsimp only);(repeat' (first|(with_reducible first|exact clZ|refine bv ?_ ?_|refine bw ?_ ?_|rfl|refine suZ ?_)|refine bz rfl ?_ ?_|exact aU hN _ rfl rfl rfl|exact aV hN _ rfl rfl rfl|exact az hN _ rfl rfl rfl (Or.inr rfl)|(refine aW hN _ rfl rfl (by first|exact Or.inr rfl|exact Or.inl rfl) ?_;first|exact aF _|exact aG _)|refine aA hN rfl ?_|refine aB hN rfl rfl ?_|exact ay hN _ rfl rfl|exact aC hN rfl rfl rfl rfl|(with_reducible first|refine stZ ?_|refine aT ?_)));(try (any_goals (first|(with_reducible rfl)|(refine aj ?_;omega)))))
     · exact mY (f:=fun v=>gb inn v && gb goal v) (d:=fun _=>false) (by simp [h1])
     · exact sc (f:=fun v=>if gb inn v = true then (deg g inn v : Int) else 0) (d:=fun _=>0) (by simp [h1])
     · simp [cX,hgk' hk',h1]
   · have ek : k = n:=by omega
     subst ek
     have hA0:=jc (goal:=goal) hg hi who ht
     have hG:=rf hg
     have hS : ∀ v,gb inn v = true → v < k:=fun v h=>by
      rcases Nat.lt_or_ge v k with h'|h'
      · exact h'
      · rw [gb,List.getD_eq_getElem?_getD,List.getElem?_eq_none (by omega)] at h;cases h
     have hdl : ∀ j,0 ≤ gi (tab k fun v=>if gb inn v = true then (deg g inn v : Int) else 0) j ∧ gi (tab k fun v=>if gb inn v = true then (deg g inn v : Int) else 0) j ≤ 65536:=fun j=>by
      rcases Nat.lt_or_ge j k with h'|h'
      · rw [bH _ h']
        have:=k8 g inn j (gr g.nxt j).length
        have:=(hg.nx j h').1
        have e : deg g inn (j : Int) = eg g inn j (gr g.nxt j).length:=rfl
        split <;> omega
      · rw [ri (by rw [bD];exact h')];omega
     clear hlen hgk' hk hgl
     (refine cf (fun (x : Nat × List Int × List Bool × List Int)=>(tmL [(13,.c (.int .i64 x.1)),(11,.sl (ν 3)),(10,.sl (ν 2)),(9,.sl (ν 1)),(4,.ad (ν 0) 0),(1,.c (.B inn)),(2,.c (.int .i64 who))],hpL hp0 ν [.box [.c (.I g.own),.c (.I g.prio),.c (.R g.nxt),.c (.R g.prev),.c (.I g.pick)],.arr 4 .yes (.B x.2.2.1),.arr 2 .yes (.I x.2.2.2),.arr 2 .yes (.I x.2.1)])) (fun (x : Nat × List Int × List Bool × List Int)=>(x.1 ≤ x.2.1.length ∧ ∀ j,-(65536 * x.1 : Int) ≤ gi x.2.2.2 j ∧ gi x.2.2.2 j ≤ 65536) ∧ AInv (cR g k) k (gr g.nxt) (gr g.prev) (fun v u=>edg g v u = true) who (fun v=>gb inn v = true) (fun v=>gb goal v = true) false x.2.1 x.1 0 x.2.2.1 x.2.2.2) (fun (x : Nat × List Int × List Bool × List Int)=>k - x.1) ⟨(0,cX (bZ k fun v=>gb inn v && gb goal v) k,(bZ k fun v=>gb inn v && gb goal v),(tab k fun v=>if gb inn v = true then (deg g inn v : Int) else 0)),?_,bE hX hN [] ?_ ?_⟩ ?_;(repeat' (first|(with_reducible first|exact clZ|refine bv ?_ ?_|refine bw ?_ ?_|rfl|refine suZ ?_)|refine bz rfl ?_ ?_|exact aU hN _ rfl rfl rfl|exact aV hN _ rfl rfl rfl|exact az hN _ rfl rfl rfl (Or.inr rfl)|(refine aW hN _ rfl rfl (by first|exact Or.inr rfl|exact Or.inl rfl) ?_;first|exact aF _|exact aG _)|refine aA hN rfl ?_|refine aB hN rfl rfl ?_|exact ay hN _ rfl rfl|exact aC hN rfl rfl rfl rfl|(with_reducible first|refine stZ ?_|refine aT ?_)));(try (any_goals (first|(with_reducible rfl)|(refine aj ?_;omega)))))
     · exact ⟨⟨Nat.zero_le _,fun j=>by have:=hdl j;dsimp only;omega⟩,hA0⟩
     · exact (dN (Nat.le_refl _)).symm
     · exact (pd (Nat.le_refl _)).symm
     clear hA0 hdl
     rintro ⟨i,q,out,left⟩ ⟨⟨hiq,hlb⟩,hA⟩
     simp only at hiq hA hlb
     dsimp only
     have hqn:=hA.qle
     have hqr:=hA.qr i
     have hpv:=fun h=>hg.pv (gi q i).toNat h
     have hol:=hA.ol
     (repeat' (first|(with_reducible first|(apply hK;clear hK K)|refine stZ ?_|refine aZ rfl ?_|((first|apply ae|apply af);clear ae X af Y))|(with_reducible refine bc ?_;first|refine a8 rfl ?_|refine ba rfl ?_)|(with_reducible refine bG ?_;first|refine bo rfl rfl rfl rfl ?_|refine bF rfl rfl rfl ?_|refine bX rfl rfl rfl rfl ?_)|((first|(with_reducible first|((first|refine bf ?_|refine bg ?_);intro K hK)|(refine aN ?_;intro X Y ae af)|refine aO ?_)|(with_reducible refine bG ?_;refine bp rfl rfl fun X Y ae af=>?_));simp (disch:=first|decide|omega|(simp only [List.length_cons,List.length_nil];omega)) only [go_sem,↓ah hN,ak hN,reduceIte,reduceCtorEq,Nat.reduceAdd,Nat.reduceLT,Nat.reduceLeDiff,Nat.reduceEqDiff,Nat.reduceSub])|(with_reducible refine And.intro (fun h=>?_) (fun h=>?_) <;> try (exfalso;omega))|(with_reducible refine be aQ hN ?_)|(with_reducible refine And.intro ?_ ?_)|(refine aj ?_;omega)|(exact bd hN (by decide))))
     · have hiq' : i < q.length:=by omega
       have h3:=hqr hiq'
       have hu0 : gi q i = ((gi q i).toNat : Int):=(Int.toNat_of_nonneg h3.1).symm
       have hpl:=(hpv (by omega)).1
       have hun : (gi q i).toNat < k:=by omega
       (refine cf (fun (y : Nat × List Int × List Bool × List Int)=>(tmL [(15,.c (.int .i64 y.1)),(14,.c (.int .i64 (gi q i))),(13,.c (.int .i64 i)),(11,.sl (ν 3)),(10,.sl (ν 2)),(9,.sl (ν 1)),(4,.ad (ν 0) 0),(1,.c (.B inn)),(2,.c (.int .i64 who))],hpL hp0 ν [.box [.c (.I g.own),.c (.I g.prio),.c (.R g.nxt),.c (.R g.prev),.c (.I g.pick)],.arr 4 .yes (.B y.2.2.1),.arr 2 .yes (.I y.2.2.2),.arr 2 .yes (.I y.2.1)])) (fun (y : Nat × List Int × List Bool × List Int)=>(y.1 ≤ (gr g.prev (gi q i).toNat).length ∧ i < y.2.1.length ∧ gi y.2.1 i = gi q i ∧ ∀ j,-(65536 * i + y.1 : Int) ≤ gi y.2.2.2 j ∧ gi y.2.2.2 j ≤ 65536) ∧ AInv (cR g k) k (gr g.nxt) (gr g.prev) (fun v u=>edg g v u = true) who (fun v=>gb inn v = true) (fun v=>gb goal v = true) false y.2.1 i y.1 y.2.2.1 y.2.2.2) (fun (y : Nat × List Int × List Bool × List Int)=>(gr g.prev (gi q i).toNat).length - y.1) ⟨(0,q,out,left),?_,bE hX hN [] ?_ ?_⟩ ?_;(repeat' (first|(with_reducible first|exact clZ|refine bv ?_ ?_|refine bw ?_ ?_|rfl|refine suZ ?_)|refine bz rfl ?_ ?_|exact aU hN _ rfl rfl rfl|exact aV hN _ rfl rfl rfl|exact az hN _ rfl rfl rfl (Or.inr rfl)|(refine aW hN _ rfl rfl (by first|exact Or.inr rfl|exact Or.inl rfl) ?_;first|exact aF _|exact aG _)|refine aA hN rfl ?_|refine aB hN rfl rfl ?_|exact ay hN _ rfl rfl|exact aC hN rfl rfl rfl rfl|(with_reducible first|refine stZ ?_|refine aT ?_)));(try (any_goals (first|(with_reducible rfl)|(refine aj ?_;omega)))))
       · exact ⟨⟨Nat.zero_le _,hiq',rfl,fun j=>by have:=hlb j;dsimp only;omega⟩,hA⟩
       have hwb:=(hpv hun).2
       clear hA hlb hqr hpv hol hiq
       rintro ⟨m,q',out',left'⟩ ⟨⟨hm,hiq2,hqe,hlb⟩,hB⟩
       simp only at hm hiq2 hqe hB hlb
       dsimp only
       have hol':=hB.ol
       have hll':=hB.ll
       have hqn':=hB.qle
       have hw:=hwb m
       have hlw:=hlb (gi (gr g.prev (gi q i).toNat) m).toNat
       have hqu:=hqe.trans hu0
       have hw0 : m < (gr g.prev (gi q i).toNat).length → gi (gr g.prev (gi q i).toNat) m = ((gi (gr g.prev (gi q i).toNat) m).toNat : Int):=fun h=>(Int.toNat_of_nonneg (hw h).1).symm
       have hown : m < (gr g.prev (gi q i).toNat).length → (cR g k).own (gi (gr g.prev (gi q i).toNat) m).toNat = gi g.own (gi (gr g.prev (gi q i).toNat) m).toNat:=fun h=>pD hg (by have:=hw h;omega)
       have hE : m < (gr g.prev (gi q i).toNat).length → ((cR g k).E (gi (gr g.prev (gi q i).toNat) m).toNat (gi q i).toNat ↔ edg g (gi (gr g.prev (gi q i).toNat) m) (gi q i) = true):=fun h=>by
        have h5:=hw h
        have h6:=(hG.pv _ (gi (gr g.prev (gi q i).toNat) m).toNat hun).1 ⟨m,h,hw0 h⟩
        have e : edg g ((gi (gr g.prev (gi q i).toNat) m).toNat : Nat) ((gi q i).toNat : Nat) = edg g (gi (gr g.prev (gi q i).toNat) m) (gi q i):=by rw [← hw0 h,← hu0]
        rw [hG.edge]
        exact ⟨fun h=>e.symm.trans h.2.2.1,fun h=>⟨by omega,hun,e.trans h,h6.2⟩⟩
       (repeat' (first|(with_reducible first|(apply hK;clear hK K)|refine stZ ?_|refine aZ rfl ?_|((first|apply ae|apply af);clear ae X af Y))|(with_reducible refine bc ?_;first|refine a8 rfl ?_|refine ba rfl ?_)|(with_reducible refine bG ?_;first|refine bo rfl rfl rfl rfl ?_|refine bF rfl rfl rfl ?_|refine bX rfl rfl rfl rfl ?_)|((first|(with_reducible first|((first|refine bf ?_|refine bg ?_);intro K hK)|(refine aN ?_;intro X Y ae af)|refine aO ?_)|(with_reducible refine bG ?_;refine bp rfl rfl fun X Y ae af=>?_));simp (disch:=first|decide|omega|(simp only [List.length_cons,List.length_nil];omega)) only [go_sem,↓ah hN,ak hN,reduceIte,reduceCtorEq,Nat.reduceAdd,Nat.reduceLT,Nat.reduceLeDiff,Nat.reduceEqDiff,Nat.reduceSub])|(with_reducible refine And.intro (fun h=>?_) (fun h=>?_) <;> try (exfalso;omega))|(with_reducible refine be aQ hN ?_)|(refine br (kZ g (gi (gr g.prev (gi q i).toNat) m) (gi q i) (by omega) (by omega)) ?_ rfl (fun _=>rfl) ?_)|(with_reducible first|exact aq|refine am ?_ ?_|exact bL _|refine aR ?_|exact aL _|exact bn _ _|refine bm ?_|exact aJ _)|exact aS hN rfl rfl|(refine bj hN rfl ?_;first|exact aF _|exact aG _)|exact aK rfl rfl rfl|(simp only [aI,List.map_nil])|(with_reducible refine bI ?_)|(with_reducible refine And.intro ?_ ?_)|(refine aj ?_;omega)|(exact bd hN (by decide))))
       · have hm' : m < (gr g.prev (gi q i).toNat).length:=by omega
         (refine ⟨(m + 1,q',out',left'),⟨?_,?_⟩,bE hX hN [] ?_ ?_⟩;(try any_goals dsimp only);(repeat' (first|(with_reducible first|exact clZ|refine bv ?_ ?_|refine bw ?_ ?_|rfl|refine suZ ?_)|refine bz rfl ?_ ?_|exact aU hN _ rfl rfl rfl|exact aV hN _ rfl rfl rfl|exact az hN _ rfl rfl rfl (Or.inr rfl)|(refine aW hN _ rfl rfl (by first|exact Or.inr rfl|exact Or.inl rfl) ?_;first|exact aF _|exact aG _)|refine aA hN rfl ?_|refine aB hN rfl rfl ?_|exact ay hN _ rfl rfl|exact aC hN rfl rfl rfl rfl|(with_reducible first|refine stZ ?_|refine aT ?_)));(try (any_goals (first|(with_reducible rfl)|(refine aj ?_;omega)))))
         · exact ⟨⟨by omega,hiq2,hqe,fun j=>by have:=hlb j;omega⟩,hB.skip hiq2 hqu hm' (hw0 hm') (.inl (pF (by assumption)))⟩
       · have hm' : m < (gr g.prev (gi q i).toNat).length:=by omega
         (refine ⟨(m + 1,q',out',left'),⟨?_,?_⟩,bE hX hN [] ?_ ?_⟩;(try any_goals dsimp only);(repeat' (first|(with_reducible first|exact clZ|refine bv ?_ ?_|refine bw ?_ ?_|rfl|refine suZ ?_)|refine bz rfl ?_ ?_|exact aU hN _ rfl rfl rfl|exact aV hN _ rfl rfl rfl|exact az hN _ rfl rfl rfl (Or.inr rfl)|(refine aW hN _ rfl rfl (by first|exact Or.inr rfl|exact Or.inl rfl) ?_;first|exact aF _|exact aG _)|refine aA hN rfl ?_|refine aB hN rfl rfl ?_|exact ay hN _ rfl rfl|exact aC hN rfl rfl rfl rfl|(with_reducible first|refine stZ ?_|refine aT ?_)));(try (any_goals (first|(with_reducible rfl)|(refine aj ?_;omega)))))
         · exact ⟨⟨by omega,hiq2,hqe,fun j=>by have:=hlb j;omega⟩,hB.skip hiq2 hqu hm' (hw0 hm') (.inr (.inl (by assumption)))⟩
       · have hm' : m < (gr g.prev (gi q i).toNat).length:=by omega
         (refine ⟨(m + 1,q',out',left'),⟨?_,?_⟩,bE hX hN [] ?_ ?_⟩;(try any_goals dsimp only);(repeat' (first|(with_reducible first|exact clZ|refine bv ?_ ?_|refine bw ?_ ?_|rfl|refine suZ ?_)|refine bz rfl ?_ ?_|exact aU hN _ rfl rfl rfl|exact aV hN _ rfl rfl rfl|exact az hN _ rfl rfl rfl (Or.inr rfl)|(refine aW hN _ rfl rfl (by first|exact Or.inr rfl|exact Or.inl rfl) ?_;first|exact aF _|exact aG _)|refine aA hN rfl ?_|refine aB hN rfl rfl ?_|exact ay hN _ rfl rfl|exact aC hN rfl rfl rfl rfl|(with_reducible first|refine stZ ?_|refine aT ?_)));(try (any_goals (first|(with_reducible rfl)|(refine aj ?_;omega)))))
         · exact ⟨⟨by omega,hiq2,hqe,fun j=>by have:=hlb j;omega⟩,hB.skip hiq2 hqu hm' (hw0 hm') (.inr (.inr (by rw [hE hm'];exact pF (by assumption))))⟩
       · have hm' : m < (gr g.prev (gi q i).toNat).length:=by omega
         have hwk:=hw hm'
         have he:=(hE hm').2 (by assumption)
         have hlt : (gi (gr g.prev (gi q i).toNat) m).toNat < left'.length:=by omega
         have ha:=PG.attr_mine (S:=fun v=>gb inn v = true) (T:=fun v=>gb goal v = true) (by assumption) ((hown hm').trans (by assumption)) he (hB.ga _ hun (by have:=(hB.qr i hiq2).2.2;rwa [hqe] at this))
         (refine ⟨(m + 1,q' ++ [gi (gr g.prev (gi q i).toNat) m],out'.set (gi (gr g.prev (gi q i).toNat) m).toNat true,left'.set (gi (gr g.prev (gi q i).toNat) m).toNat (gi left' (gi (gr g.prev (gi q i).toNat) m).toNat - 1)),⟨?_,?_⟩,bE hX hN [(3,5)] ?_ ?_⟩;(try any_goals dsimp only);(repeat' (first|(with_reducible first|exact clZ|refine bv ?_ ?_|refine bw ?_ ?_|rfl|refine suZ ?_)|refine bz rfl ?_ ?_|exact aU hN _ rfl rfl rfl|exact aV hN _ rfl rfl rfl|exact az hN _ rfl rfl rfl (Or.inr rfl)|(refine aW hN _ rfl rfl (by first|exact Or.inr rfl|exact Or.inl rfl) ?_;first|exact aF _|exact aG _)|refine aA hN rfl ?_|refine aB hN rfl rfl ?_|exact ay hN _ rfl rfl|exact aC hN rfl rfl rfl rfl|(with_reducible first|refine stZ ?_|refine aT ?_)));(try (any_goals (first|(with_reducible rfl)|(refine aj ?_;omega)))))
         · refine ⟨⟨by omega,by simp;omega,by rw [cy hiq2];exact hqe,fun j=>?_⟩,?_⟩
           · have:=hlb j
             rw [eO hlt]
             split <;> omega
           · have:=hB.mark hiq2 hqu hm' (hw0 hm') (by omega) (by assumption) ha (left':=left'.set (gi (gr g.prev (gi q i).toNat) m).toNat (gi left' (gi (gr g.prev (gi q i).toNat) m).toNat - 1)) (by rw [List.length_set];exact hB.ll) (fun v hv=>by rw [eO hlt,if_neg hv])
             rwa [← hw0 hm'] at this
       · have hm' : m < (gr g.prev (gi q i).toNat).length:=by omega
         have hwk:=hw hm'
         have he:=(hE hm').2 (by assumption)
         have hlt : (gi (gr g.prev (gi q i).toNat) m).toNat < left'.length:=by omega
         have hno : (cR g k).own (gi (gr g.prev (gi q i).toNat) m).toNat ≠ who:=by rw [hown hm'];exact beq_eq_false_iff_ne.1 (by assumption)
         have hS' : gb inn (gi (gr g.prev (gi q i).toNat) m).toNat = true:=by assumption
         have ho : gb out' (gi (gr g.prev (gi q i).toNat) m).toNat = false:=by assumption
         obtain ⟨r1,r2⟩:=hB.yo (gi (gr g.prev (gi q i).toNat) m).toNat hS' ho hno
         have r3:=r2.elim id (fun h=>by cases h.1)
         have r4:=kY hG hiq2 hqu hm' (hw0 hm') hB he
         have hz : gi (left'.set (gi (gr g.prev (gi q i).toNat) m).toNat (gi left' (gi (gr g.prev (gi q i).toNat) m).toNat - 1)) (gi (gr g.prev (gi q i).toNat) m).toNat = 0:=by assumption
         rw [eO hlt,if_pos rfl] at hz
         have ha:=hB.shut hG hiq2 hqu hm' (hw0 hm') hS' hno he (by omega)
         (refine ⟨(m + 1,q' ++ [gi (gr g.prev (gi q i).toNat) m],out'.set (gi (gr g.prev (gi q i).toNat) m).toNat true,left'.set (gi (gr g.prev (gi q i).toNat) m).toNat (gi left' (gi (gr g.prev (gi q i).toNat) m).toNat - 1)),⟨?_,?_⟩,bE hX hN [(3,5)] ?_ ?_⟩;(try any_goals dsimp only);(repeat' (first|(with_reducible first|exact clZ|refine bv ?_ ?_|refine bw ?_ ?_|rfl|refine suZ ?_)|refine bz rfl ?_ ?_|exact aU hN _ rfl rfl rfl|exact aV hN _ rfl rfl rfl|exact az hN _ rfl rfl rfl (Or.inr rfl)|(refine aW hN _ rfl rfl (by first|exact Or.inr rfl|exact Or.inl rfl) ?_;first|exact aF _|exact aG _)|refine aA hN rfl ?_|refine aB hN rfl rfl ?_|exact ay hN _ rfl rfl|exact aC hN rfl rfl rfl rfl|(with_reducible first|refine stZ ?_|refine aT ?_)));(try (any_goals (first|(with_reducible rfl)|(refine aj ?_;omega)))))
         · refine ⟨⟨by omega,by simp;omega,by rw [cy hiq2];exact hqe,fun j=>?_⟩,?_⟩
           · have:=hlb j
             rw [eO hlt]
             split <;> omega
           · have:=hB.mark hiq2 hqu hm' (hw0 hm') (by omega) ho ha (left':=left'.set (gi (gr g.prev (gi q i).toNat) m).toNat (gi left' (gi (gr g.prev (gi q i).toNat) m).toNat - 1)) (by rw [List.length_set];exact hB.ll) (fun v hv=>by rw [eO hlt,if_neg hv])
             rwa [← hw0 hm'] at this
       · have hm' : m < (gr g.prev (gi q i).toNat).length:=by omega
         have hwk:=hw hm'
         have he:=(hE hm').2 (by assumption)
         have hlt : (gi (gr g.prev (gi q i).toNat) m).toNat < left'.length:=by omega
         have hno : (cR g k).own (gi (gr g.prev (gi q i).toNat) m).toNat ≠ who:=by rw [hown hm'];exact beq_eq_false_iff_ne.1 (by assumption)
         have hS' : gb inn (gi (gr g.prev (gi q i).toNat) m).toNat = true:=by assumption
         have ho : gb out' (gi (gr g.prev (gi q i).toNat) m).toNat = false:=by assumption
         obtain ⟨r1,r2⟩:=hB.yo (gi (gr g.prev (gi q i).toNat) m).toNat hS' ho hno
         have r3:=r2.elim id (fun h=>by cases h.1)
         have r4:=kY hG hiq2 hqu hm' (hw0 hm') hB he
         have hz : (gi (left'.set (gi (gr g.prev (gi q i).toNat) m).toNat (gi left' (gi (gr g.prev (gi q i).toNat) m).toNat - 1)) (gi (gr g.prev (gi q i).toNat) m).toNat == 0) = false:=by assumption
         have hz':=beq_eq_false_iff_ne.1 hz
         rw [eO hlt,if_pos rfl] at hz'
         have hk2:=hB.keep hG hiq2 hqu hm' (hw0 hm') (by omega) hno (by omega)
         (refine ⟨(m + 1,q',out',left'.set (gi (gr g.prev (gi q i).toNat) m).toNat (gi left' (gi (gr g.prev (gi q i).toNat) m).toNat - 1)),⟨?_,?_⟩,bE hX hN [] ?_ ?_⟩;(try any_goals dsimp only);(repeat' (first|(with_reducible first|exact clZ|refine bv ?_ ?_|refine bw ?_ ?_|rfl|refine suZ ?_)|refine bz rfl ?_ ?_|exact aU hN _ rfl rfl rfl|exact aV hN _ rfl rfl rfl|exact az hN _ rfl rfl rfl (Or.inr rfl)|(refine aW hN _ rfl rfl (by first|exact Or.inr rfl|exact Or.inl rfl) ?_;first|exact aF _|exact aG _)|refine aA hN rfl ?_|refine aB hN rfl rfl ?_|exact ay hN _ rfl rfl|exact aC hN rfl rfl rfl rfl|(with_reducible first|refine stZ ?_|refine aT ?_)));(try (any_goals (first|(with_reducible rfl)|(refine aj ?_;omega)))))
         · refine ⟨⟨by omega,hiq2,hqe,fun j=>?_⟩,?_⟩
           · have:=hlb j
             rw [eO hlt]
             split <;> omega
           · have e : gi left' (gi (gr g.prev (gi q i).toNat) m).toNat - 1 = (rem (gr g.nxt) (fun v u=>edg g v u = true) (fun v=>gb inn v = true) (Dn (cR g k) (gr g.prev) q' i (m + 1)) (gi (gr g.prev (gi q i).toNat) m).toNat : Nat):=by omega
             rw [e];exact hk2
       · (refine ⟨(i + 1,q',out',left'),⟨?_,?_⟩,bE hX hN [] ?_ ?_⟩;(try any_goals dsimp only);(repeat' (first|(with_reducible first|exact clZ|refine bv ?_ ?_|refine bw ?_ ?_|rfl|refine suZ ?_)|refine bz rfl ?_ ?_|exact aU hN _ rfl rfl rfl|exact aV hN _ rfl rfl rfl|exact az hN _ rfl rfl rfl (Or.inr rfl)|(refine aW hN _ rfl rfl (by first|exact Or.inr rfl|exact Or.inl rfl) ?_;first|exact aF _|exact aG _)|refine aA hN rfl ?_|refine aB hN rfl rfl ?_|exact ay hN _ rfl rfl|exact aC hN rfl rfl rfl rfl|(with_reducible first|refine stZ ?_|refine aT ?_)));(try (any_goals (first|(with_reducible rfl)|(refine aj ?_;omega)))))
         · have em : m = (gr g.prev (gi q i).toNat).length:=by omega
           refine ⟨⟨by omega,fun j=>by have:=hlb j;omega⟩,?_⟩
           rw [em] at hB
           exact hB.next hG hiq2 hqu
     · (refine e8 hN (i:=1) (.inr rfl) (by first|rfl|(simp (disch:=first|decide|omega|(simp only [List.length_cons,List.length_nil];omega)) only [bS,cc,ch,cj,go_sem,beq_self_eq_true,↓ax,↓ah hN,ak hN,reduceIte,reduceCtorEq,Nat.reduceAdd,Nat.reduceLT,Nat.reduceLeDiff,Nat.reduceEqDiff,Nat.reduceSub];rfl)) rfl ?_ rfl)
       refine congrArg C.B (g8 hA.ol fun v hv=>?_)
       exact kd (hA.done hG hS (by omega) v hv)
end Go.Proofs.Ythjamlponejffaa
