/-
  Measures, the program: tables, demands, the least table.
-/
import Derived.Test.YtceonklhlpkfgaaZlM6
import Derived.Test.YtceonklhlpkfgaaZlKf
import Derived.Test.YtceonklhlpkfgaaZlCg
namespace Go.Proofs.Ytceonklhlpkfgaa
set_option linter.unusedVariables false
set_option linter.unusedSimpArgs false
open Go.RowKit
attribute [local irreducible] ay cM Aw Le
def dg (g : Pa) (t : List (List Int)) : Prop:=(cy g).Tab t
noncomputable def gg (g : Pa) (t : List (List Int)) (v : Nat) : List Int:=(cy g).dem t v
def Uns (g : Pa) (t : List (List Int)) (v : Nat) : Prop:=MS.lx (gr t v) (gg g t v)
noncomputable def fb (g : Pa) (t : List (List Int)) (v k : Nat) : List (List Int):=mT k fun i=>d5 g v (gr t (gi (gr g.ar.nxt v) i).toNat)
theorem lz (g : Pa) (t : List (List Int)) (v k : Nat) : fb g t v (k + 1) = fb g t v k ++ [d5 g v (gr t (gi (gr g.ar.nxt v) k).toNat)]:=by
 unfold fb mT
 simp [List.range_succ]
theorem fU (g : Pa) (t : List (List Int)) (v k : Nat) : (fb g t v k).length = k:=oh _ _
theorem dg.row {g : Pa} {t : List (List Int)} (h : dg g t) {v : Nat} (hv : v < g.prio.length) : bJ g (gr t v):=h.2 v hv
theorem dg.len {g : Pa} {t : List (List Int)} (h : dg g t) : t.length = g.prio.length:=h.1
theorem pO {g : Pa} (hg : PaOk g) {v i : Nat} (hv : v < g.prio.length) (hi : i < (gr g.ar.nxt v).length) : 0 ≤ gi (gr g.ar.nxt v) i ∧ gi (gr g.ar.nxt v) i < g.prio.length:=by
 have hl:=hg.len
 have:=(hg.ar.vert v (by omega)).2.2.2.2.bnd i hi
 exact ⟨this.1,by omega⟩
theorem oB {g : Pa} (hg : PaOk g) {t : List (List Int)} (ht : dg g t) {v : Nat} (hv : v < g.prio.length) {k : Nat} (hk : k ≤ (gr g.ar.nxt v).length) : ∀ i,i < (fb g t v k).length → (gr (fb g t v k) i).length ≤ 1048576:=fun i hi=>by
 rw [fU] at hi
 rw [fb,lZ _ hi]
 have hn:=pO hg hv (i:=i) (by omega)
 have:=(cf (l7 hg (v:=v) (ht.row (v:=(gi (gr g.ar.nxt v) i).toNat) (by omega)))).2
 omega
theorem pP {g : Pa} {t : List (List Int)} {v : Nat} {b : Bool} (hb : tf (gi g.ar.own v = 0) = b) : MS.bst b (gr (fb g t v (gr g.ar.nxt v).length)) (gr g.ar.nxt v).length = gg g t v:=by
 subst hb
 exact MS.bst_congr _ fun j hj=>lZ _ hj
theorem iY (g : Pa) (hg : PaOk g) (t : List (List Int)) : ay Try.prog 29 [paA g,.c (.R t)] [] (fun _=>.c (.bool (tf (dg g t)))):=by
 have hle:=hg.ar.le
 have hln:=hg.len
 (refine aV aL Try.func29 rfl rfl (by kernel_rfl) fun hp0 ν hX hN=>?_;simp only [ch,Nat.reduceAdd])
 (repeat' (first|(with_reducible first|(apply hK;clear hK K)|refine stZ ?_|refine aY rfl ?_|((first|apply ae|apply af);clear ae X af Y))|(with_reducible refine ba ?_;first|refine aZ rfl ?_|refine a8 rfl ?_)|((with_reducible first|((first|refine be ?_|refine bf ?_);intro K hK)|(refine aM ?_;intro X Y ae af)|refine aN ?_);simp (disch:=first|decide|omega|(simp only [List.length_cons,List.length_nil];omega)) only [go_sem,↓ak hN,an hN,reduceIte,reduceCtorEq,Nat.reduceAdd,Nat.reduceLT,Nat.reduceLeDiff,Nat.reduceEqDiff,Nat.reduceSub])|(with_reducible refine And.intro (fun h=>?_) (fun h=>?_) <;> try (exfalso;omega))|(with_reducible refine bd aL hN ?_)|(with_reducible refine And.intro ?_ ?_)|(refine ap ?_;omega)|(exact bc hN (by decide))))
 · (refine bX (.inr rfl) (by first|rfl|(simp (disch:=first|decide|omega|(simp only [List.length_cons,List.length_nil];omega)) only [bm,bq,bC,bF,go_sem,beq_self_eq_true,↓az,↓ak hN,an hN,reduceIte,reduceCtorEq,Nat.reduceAdd,Nat.reduceLT,Nat.reduceLeDiff,Nat.reduceEqDiff,Nat.reduceSub];rfl)) ?_)
   exact congrArg C.bool (am fun h : dg g t=>by have:=h.1;have:=(by assumption : ¬ (t.length : Int) = g.prio.length);have : t.length = g.prio.length:=h.1;omega).symm
 have hll : t.length = g.prio.length:=by have:=bne_eq_false_iff_eq.1 (show ((t.length : Int) != g.prio.length) = false by assumption);omega
 (refine dw (fun (k : Nat)=>(tmL [(15,.c (.int .i64 k)),(14,.c (.int .i64 t.length)),(13,.c (.R t)),(2,.ad (ν 0) 0)],hpL hp0 ν [.box [.c (.I g.ar.own),.c (.R g.ar.nxt),.c (.I g.prio)]])) (fun (k : Nat)=>k ≤ t.length ∧ ∀ j,j < k → bJ g (gr t j)) (fun (k : Nat)=>t.length - k) ⟨0,?_,cS hX hN [] ?_ ?_⟩ ?_;(repeat' (first|(with_reducible first|exact clZ|refine cT ?_ ?_|refine cU ?_ ?_|rfl|refine suZ ?_)|refine cV rfl ?_ ?_|exact bU hN _ rfl rfl rfl|exact bV hN _ rfl rfl rfl|exact bu hN _ rfl rfl rfl (Or.inr rfl)|(refine bW hN _ rfl rfl (by first|exact Or.inr rfl|exact Or.inl rfl) ?_;first|exact aT _|exact aU _)|refine bv hN rfl ?_|refine bw hN rfl rfl ?_|exact br hN _ rfl rfl|exact bz hN rfl rfl rfl rfl|(with_reducible first|refine stZ ?_|refine bT ?_)));(try (any_goals (first|(with_reducible rfl)|(refine ap ?_;omega)))))
 · exact ⟨Nat.zero_le _,fun j h=>absurd h (Nat.not_lt_zero _)⟩
 rintro k ⟨hk,ho⟩
 (repeat' (first|(with_reducible first|(apply hK;clear hK K)|refine stZ ?_|refine aY rfl ?_|((first|apply ae|apply af);clear ae X af Y))|(with_reducible refine ba ?_;first|refine aZ rfl ?_|refine a8 rfl ?_)|((with_reducible first|((first|refine be ?_|refine bf ?_);intro K hK)|(refine aM ?_;intro X Y ae af)|refine aN ?_);simp (disch:=first|decide|omega|(simp only [List.length_cons,List.length_nil];omega)) only [go_sem,↓ak hN,an hN,reduceIte,reduceCtorEq,Nat.reduceAdd,Nat.reduceLT,Nat.reduceLeDiff,Nat.reduceEqDiff,Nat.reduceSub])|(with_reducible refine And.intro (fun h=>?_) (fun h=>?_) <;> try (exfalso;omega))|(with_reducible refine bd aL hN ?_)|(refine aF (jG g hg (gr t k)) ?_ rfl (fun _=>rfl) ?_;focus ((repeat' (first|(with_reducible first|exact aw|refine aq ?_ ?_|exact bD _|refine aI ?_|exact aK _|exact aS _ _|refine aR ?_|exact aG _)|exact aJ hN rfl rfl|(refine aQ hN rfl ?_;first|exact aT _|exact aU _)|exact aH rfl rfl rfl));done))|(with_reducible first|exact aw|refine aq ?_ ?_|exact bD _|refine aI ?_|exact aK _|exact aS _ _|refine aR ?_|exact aG _)|exact aJ hN rfl rfl|(refine aQ hN rfl ?_;first|exact aT _|exact aU _)|exact aH rfl rfl rfl|(simp only [aE,List.map_nil])|(with_reducible refine bB ?_)|(with_reducible refine And.intro ?_ ?_)|(refine ap ?_;omega)|(exact bc hN (by decide))))
 · (refine bX (.inr rfl) (by first|rfl|(simp (disch:=first|decide|omega|(simp only [List.length_cons,List.length_nil];omega)) only [bm,bq,bC,bF,go_sem,beq_self_eq_true,↓az,↓ak hN,an hN,reduceIte,reduceCtorEq,Nat.reduceAdd,Nat.reduceLT,Nat.reduceLeDiff,Nat.reduceEqDiff,Nat.reduceSub];rfl)) ?_)
   exact congrArg C.bool (am fun h : dg g t=>absurd (h.row (v:=k) (by omega)) (by assumption)).symm
 · (refine ⟨k + 1,⟨?_,?_⟩,cS hX hN [] ?_ ?_⟩;(try any_goals dsimp only);(repeat' (first|(with_reducible first|exact clZ|refine cT ?_ ?_|refine cU ?_ ?_|rfl|refine suZ ?_)|refine cV rfl ?_ ?_|exact bU hN _ rfl rfl rfl|exact bV hN _ rfl rfl rfl|exact bu hN _ rfl rfl rfl (Or.inr rfl)|(refine bW hN _ rfl rfl (by first|exact Or.inr rfl|exact Or.inl rfl) ?_;first|exact aT _|exact aU _)|refine bv hN rfl ?_|refine bw hN rfl rfl ?_|exact br hN _ rfl rfl|exact bz hN rfl rfl rfl rfl|(with_reducible first|refine stZ ?_|refine bT ?_)));(try (any_goals (first|(with_reducible rfl)|(refine ap ?_;omega)))))
   exact ⟨by omega,g8 ho (by assumption)⟩
 · (refine bX (.inr rfl) (by first|rfl|(simp (disch:=first|decide|omega|(simp only [List.length_cons,List.length_nil];omega)) only [bm,bq,bC,bF,go_sem,beq_self_eq_true,↓az,↓ak hN,an hN,reduceIte,reduceCtorEq,Nat.reduceAdd,Nat.reduceLT,Nat.reduceLeDiff,Nat.reduceEqDiff,Nat.reduceSub];rfl)) ?_)
   exact congrArg C.bool (aA ⟨hll,fun j hj=>ho j (by have : j < g.prio.length:=hj;omega)⟩).symm
end Go.Proofs.Ytceonklhlpkfgaa
