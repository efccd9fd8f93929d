/-
  The arguments of a law opened; the row's last step.
-/
import Derived.Test.YtlodllmpndflcaaZoCa
import Derived.ChangeSame
import Derived.JoinedOf
import Derived.JoinedAt
import Derived.Carry
import Derived.Lib.SmallJoins
import Derived.Deep.Matrix
import Derived.Test.YtlodllmpndflcaaZoCb
namespace Go.Proofs.Ytlodllmpndflcaa
set_option linter.unusedVariables false
set_option linter.unusedSimpArgs false
open Go.RowKit Go.ChangeShapes Go.WideShapes Go.ChangeAt Go.Deep Go.Joins
theorem fw {w : World} {a : Addr} {n : Nat} {f : Nat → Value} (h : ∀ i,i < n → w.cell? (a.add i) = some (f i)) : (0 < n → a.spot = none) ∧ ∀ i,i < n → w.cell? ⟨a.block,a.off + i,none⟩ = some (f i):=by
 have hs : 0 < n → a.spot = none:=fun hn=>by
  have h0:=h 0 hn
  simp only [Addr.add,if_true] at h0
  unfold World.cell? at h0
  cases hq : a.spot with
  | none => rfl
  | some x => rw [hq] at h0; split at h0 <;> simp at h0
 refine ⟨hs,fun i hi=>?_⟩
 have:=h i hi
 by_cases e : i = 0
 · subst e
   have hsp:=hs (by omega)
   obtain ⟨b,o,s⟩:=a
   simp only at hsp
   subst hsp
   simpa [Addr.add] using this
 · simpa [Addr.add,e] using this
def Wf (xs : List Int) : Prop:=∀ n ∈ xs,(Lit.int .i64 n).wf = true
theorem Wf.le {xs : List Int} (h : Wf xs) : ∀ k,k < xs.length → -9223372036854775808 ≤ gi xs k ∧ gi xs k ≤ 9223372036854775807:=fun k hk=>by
 have:=h _ (ee hk)
 simp only [Lit.wf,IntKind.min,IntKind.max,IntKind.signed,IntKind.bits,Bool.and_eq_true,decide_eq_true_eq,if_true] at this
 omega
section
variable {H : Type} {enc : TypeId × Value → H} {W : World} {base : Nat}
theorem po {n : Nat} {v : Value} {x : DataW H × List MemPlace} (h : DataW.trod enc Try.prog W base (fun _=>true) true n 22 [v] = some x) : ∃ xs,IsI W v xs ∧ Wf xs:=by
 rcases open_ints Try.underlying22 Try.underlying2 (by kernel_rfl) h with ⟨hcs,_⟩|⟨a,len,cap,zs,hcs,hb,hl,hm,hz,hx,hc,hw⟩
 · simp only [List.cons.injEq,and_true] at hcs
   subst hcs
   exact ⟨[],(o7 W).is,fun n hn=>by simp at hn⟩
 · simp only [List.cons.injEq,and_true] at hcs
   subst hcs
   simp only [if_true] at hz
   unfold maxLen at hm
   obtain ⟨h1,h2⟩:=fw (w:=W) (a:=a) (n:=len) (f:=fun i=>.int .i64 (zs.getD i 0)) (fun i hi=>hc i (by omega))
   refine ⟨zs.take len,⟨some a,len,cap,rfl,by simp;omega,⟨hl,by omega,fun e=>(by cases e),fun ad e hn=>(by cases e;exact h1 hn),fun ad e k hk=>?_⟩⟩,fun n hn=>hw n (List.mem_of_mem_take hn)⟩
   cases e
   rw [h2 k hk]
   simp [gi,List.getD_eq_getElem?_getD,List.getElem?_take,hk]
theorem sH {n : Nat} {v : Value} {x : DataW H × List MemPlace} (h : DataW.trod enc Try.prog W base (fun _=>true) true n 23 [v] = some x) : ∃ xss,d5 W v xss ∧ ∀ k,k < xss.length → Wf (gr xss k):=by
 rcases open_int_rows Try.underlying23 Try.underlying22 Try.underlying2 (by kernel_rfl) (by kernel_rfl) h with ⟨hcs,_⟩|⟨a,len,cap,A,L,C,Z,hcs,hb,hl,hm,hx,hr⟩
 · simp only [List.cons.injEq,and_true] at hcs
   subst hcs
   exact ⟨[],(o9 W).is,fun k hk=>by simp at hk⟩
 · simp only [List.cons.injEq,and_true] at hcs
   subst hcs
   unfold maxLen at hm
   obtain ⟨h1,h2⟩:=fw (w:=W) (a:=a) (n:=len) (f:=fun i=>.slice (A i) (L i) (C i)) (fun i hi=>(hr i (by omega)).1)
   have hgr : ∀ k,k < len → gr ((List.range len).map fun r=>(Z r).take (L r)) k = (Z k).take (L k):=fun k hk=>by simp [gr,List.getD_eq_getElem?_getD,hk]
   refine ⟨(List.range len).map fun r=>(Z r).take (L r),⟨some a,len,cap,rfl,by simp,A,L,C,⟨hl,by omega,fun e=>(by cases e),fun ad e hn=>(by cases e;exact h1 hn),fun ad e k hk=>(by cases e;exact h2 k hk)⟩,fun k hk=>?_⟩,fun k hk=>?_⟩
   · rw [hgr k hk]
     obtain ⟨_,r1,r2,r3,r4,r5,r6⟩:=hr k (by omega)
     unfold maxLen at r2
     refine ⟨by simp;omega,⟨r1,by omega,fun e=>by have:=r5 e;omega,fun ad e hn=>?_,fun ad e j hj=>?_⟩⟩
     · obtain ⟨h3,h4⟩:=fw (w:=W) (a:=ad) (n:=L k) (f:=fun i=>.int .i64 ((Z k).getD i 0)) (fun i hi=>(r6 ad e).2 i (by omega))
       exact h3 hn
     · obtain ⟨h3,h4⟩:=fw (w:=W) (a:=ad) (n:=L k) (f:=fun i=>.int .i64 ((Z k).getD i 0)) (fun i hi=>(r6 ad e).2 i (by omega))
       rw [h4 j hj]
       simp [gi,List.getD_eq_getElem?_getD,List.getElem?_take,hj]
   · simp only [List.length_map,List.length_range] at hk
     rw [hgr k hk]
     exact fun n hn=>(hr k (by omega)).2.2.2.2.1 n (List.mem_of_mem_take hn)
def WfA (a : Ar) : Prop:=Wf a.own ∧ ∀ k,k < a.nxt.length → Wf (gr a.nxt k)
def WfP (g : Pa) : Prop:=WfA g.ar ∧ Wf g.prio
set_option maxRecDepth 100000 in
theorem tZ {r : Reach} {b0 : Nat} {v : Value} {d : DataW H} {p : List MemPlace} (hv : Value.okWide Try.prog W r b0 27 v) (h : DataW.Trod enc Try.prog W base (fun _=>true) true 27 v d p) : ∃ g,IsP W v g ∧ WfP g:=by
 obtain ⟨cs,rfl,hsz⟩:=okWide_struct Try.underlying27 hv
 obtain ⟨c0,c1,c2,rfl⟩:=array3 (hsz.trans (by kernel_rfl))
 obtain ⟨fuel,hf⟩:=h
 obtain ⟨y0,y1,n,_,_,h0,h1⟩:=trod_struct2 Try.underlying27 hf
 have e2 : Try.prog.cellsOf 22 = 1:=by kernel_rfl
 have e3 : Try.prog.cellsOf 23 = 1:=by kernel_rfl
 have e4 : Try.prog.cellsOf 25 = 2:=by kernel_rfl
 simp [Value.cells,e2,e3,e4] at h0 h1
 obtain ⟨z0,z1,m,_,_,g0,g1⟩:=trod_struct2 Try.underlying25 h0
 simp [e2,e3] at g0 g1
 obtain ⟨xs,hx,wx⟩:=po g0
 obtain ⟨xss,hxx,wxx⟩:=sH g1
 obtain ⟨ys,hy,wy⟩:=po h1
 exact ⟨⟨⟨xs,xss⟩,ys⟩,⟨_,_,_,rfl,hx,hxx,hy⟩,⟨⟨wx,wxx⟩,wy⟩⟩
theorem jo (hl : laidOutB Try.prog = true) {W' : World} (hb : Below W.heap.size W W') : ∀ (ts : List TypeId) (vs : List Value) (ds : List (DataW H)) (ps : List MemPlace),(∀ t ∈ ts,Try.prog.readableRec t = true ∧ t < Try.prog.types.size) →
  DataW.TrodAll enc Try.prog W 0 (fun _=>true) true ts vs ds ps → (∀ x ∈ ps,x.block < W.heap.size) → ∀ sp : Nat → Bool,(∀ p ∈ ps,sp p.block = true) → DataW.TrodAll enc Try.prog W' 0 sp true ts vs ds ps:=by
 intro ts
 induction ts with
 | nil =>
   intro vs ds ps _ h _ sp _
   obtain ⟨rfl,rfl,rfl⟩:=trodAll_nil h
   rfl
 | cons t ts ih =>
   intro vs ds ps hr h hlt sp hsp
   obtain ⟨v,vs',d,ds',p,q,rfl,rfl,rfl,h1,h2⟩:=trodAll_cons h
   have ht:=hr t (by simp)
   exact ⟨p,q,WideElems.Trod_stays hl ht.1 ht.2 h1 (fun x hx=>hb.same (hlt x (by simp [hx]))) (fun x hx=>hsp x (by simp [hx])),ih vs' ds' q (fun t' h'=>hr t' (by simp [h'])) h2 (fun x hx=>hlt x (by simp [hx])) sp (fun x hx=>hsp x (by simp [hx])),rfl⟩
set_option maxRecDepth 100000 in

theorem pp {f : Func} {s : ChangeSpec} {W' : World} {args : Array Value} {ds : List (DataW H)} {before : List MemPlace}
  (hl : laidOutB Try.prog = true) (hr : ∀ t ∈ f.params.toList,Try.prog.readableRec t = true ∧ t < Try.prog.types.size) (hres : f.resultTypes = #[4]) (hvars : s.vars = [])
  (hfn : s.fn H ds = { results:=[.lit (.bool true)],args:=ds })
  (hW : DataW.Whole enc Try.prog f.params.toList s.vars false W args.toList ds [] before) (hb : Below W.heap.size W W') :
  s.post enc Try.prog f false true false false W args (.bool true) W':=by
 have hlt : ∀ p ∈ before,p.block < W.heap.size:=fun p hp=>hW.lt p hp
 obtain ⟨p,q,hA,hV,hp,hz,hn⟩:=id hW
 rw [hvars] at hV
 obtain ⟨-,rfl⟩:=trodVars_none hV
 rw [List.append_nil] at hp
 subst hp
 have hargs : ∀ sp : Nat → Bool,(∀ x ∈ before,sp x.block = true) → DataW.TrodAll enc Try.prog W' 0 sp true f.params.toList args.toList ds before:=fun sp hsp=>jo hl hb _ _ _ _ hr hA hlt sp hsp
 have hspec : s.fn H (ds ++ []) = { results:=[.lit (.bool true)],args:=ds }:=by rw [List.append_nil];exact hfn
 have hone : ∀ (b : Nat) (sp : Nat → Bool) (hd : Bool),DataW.TrodAll enc Try.prog W' b sp hd f.resultTypes.toList ((Value.bool true).resultList f.resultTypes.size) (s.fn H (ds ++ [])).results []:=fun b sp hd=>by
  rw [hspec,hres]
  exact trodAll_cons_mk (shut_bool Try.underlying4 _) trodAll_mk0
 have hok:=ok_one hres rfl (okWide_bool_mk (W':=W') Try.underlying4 true)
 refine ⟨ds,[],before,[],before,[],hW,hone _ _ _,by rw [hspec];exact hargs _ (fun x hx=>by simpa using hlt x hx),by rw [hspec,hvars];rfl,World.keptBut_mono (fun x hx=>⟨hx,?_⟩) (hb.frame (· ∈ before)),fun hag=>by cases hag⟩
 exact Or.inr (by simpa using hx)
end
end Go.Proofs.Ytlodllmpndflcaa
namespace Go.Proofs.Ytlodllmpndflcaa
set_option linter.unusedVariables false
set_option linter.unusedSimpArgs false
open Go.RowKit
theorem own : ownKnob Try.prog.godebug = none:=by kernel_rfl
theorem vN : laidOutB Try.prog = true:=by kernel_rfl
theorem gj {s : Option Addr} {n c : Nat} {g : List Int} {w : World} (h : IsI w (.slice s n c) g) (hn : n ≤ 1048576) : Calls Try.prog 7 #[.slice s n c] w (ph w g) :=
 (iw _ _ _ _ _ h.ints hn).mono fun _ _ ⟨_,sa,c,e,h1,h2⟩=>⟨sa,n,c,e,h1,h2⟩
theorem pq {a b : Value} {x y : List Int} {w : World} (hx : IsI w a x) (hy : IsI w b y) : Calls Try.prog 11 #[a,b] w (Bb w (tf (x = y))):=by
 obtain ⟨_,_,_,rfl,h1⟩:=hx
 obtain ⟨_,_,_,rfl,h2⟩:=hy
 exact (dn _ _ _ _ _ _ _ _ _ h1 h2).mono fun _ _ h=>h.bb
set_option maxHeartbeats 400000 in
theorem na (v : Value) (g : Pa) (l : Int) (w : World) (hP : IsP w v g) (h0 : 0 ≤ l) (hl : l ≤ 1048576) :
  Calls Try.prog 4 #[v,.int .i64 l] w (Bi w (lft l (szP g))):=by
 obtain ⟨_,_,_,rfl,⟨s1,n1,c1,rfl,h1⟩,⟨s2,n2,c2,rfl,h2⟩,⟨s3,n3,c3,rfl,h3⟩⟩:=hP
 have hA : IsA w (.agg #[.slice s1 n1 c1,.slice s2 n2 c2]) g.ar:=⟨_,_,rfl,h1.is,h2.is⟩
 have hm3:=h3.max
 have HL:=Lib.hid h3.1
 by_cases hf : (szA g.ar : Int) ≤ l
 · have hz:=eK hf
   by_cases hg : (szA g.ar : Int) + n3 ≤ l
   · have hz2:=eK (l:=l - szA g.ar) (n:=n3) (by omega)
     go_enter Try.func4,Try.ntmps4
     go_wp2_with (first|(go_at_call 16;refine (j7 _ _ _ _ (hA.below (by repeat' (first|(with_reducible exact Below.refl _ _)|(with_reducible assumption)|(with_reducible apply aB)|(with_reducible apply Below.alloc)|(with_reducible apply Below.drew)|(with_reducible apply ap)|(with_reducible refine Below.trans ?_ (Below.mono (by assumption) ?_))|omega|(simp only [World.size_alloc,World.size_setCell,World.size_drew];omega)))) (by omega) (by omega)).mono ?_;rw [hz];rintro e w2 ⟨rfl,hb2⟩;have hcf:=di hb2;obtain ⟨hcell2,hfr2⟩:=hcf)|(go_at_call 17;refine (eL _ _ _ _ _ hm3 (by omega) (by omega)).mono ?_;rw [hz2];rintro e w3 ⟨rfl,rfl⟩))
     go_ret
     exact ⟨cD (by rw [eK] <;> (unfold szP;rw [HL.out];omega)),(by repeat' (first|(with_reducible exact Below.refl _ _)|(with_reducible assumption)|(with_reducible apply aB)|(with_reducible apply Below.alloc)|(with_reducible apply Below.drew)|(with_reducible apply ap)|(with_reducible refine Below.trans ?_ (Below.mono (by assumption) ?_))|omega|(simp only [World.size_alloc,World.size_setCell,World.size_drew];omega)))⟩
   · have hz2:=dC (l:=l - szA g.ar) (n:=n3) (by omega)
     go_enter Try.func4,Try.ntmps4
     go_wp2_with (first|(go_at_call 16;refine (j7 _ _ _ _ (hA.below (by repeat' (first|(with_reducible exact Below.refl _ _)|(with_reducible assumption)|(with_reducible apply aB)|(with_reducible apply Below.alloc)|(with_reducible apply Below.drew)|(with_reducible apply ap)|(with_reducible refine Below.trans ?_ (Below.mono (by assumption) ?_))|omega|(simp only [World.size_alloc,World.size_setCell,World.size_drew];omega)))) (by omega) (by omega)).mono ?_;rw [hz];rintro e w2 ⟨rfl,hb2⟩;have hcf:=di hb2;obtain ⟨hcell2,hfr2⟩:=hcf)|(go_at_call 17;refine (eL _ _ _ _ _ hm3 (by omega) (by omega)).mono ?_;rw [hz2];rintro e w3 ⟨rfl,rfl⟩))
     go_ret
     exact ⟨cD (by rw [dC];unfold szP;rw [HL.out];omega),(by repeat' (first|(with_reducible exact Below.refl _ _)|(with_reducible assumption)|(with_reducible apply aB)|(with_reducible apply Below.alloc)|(with_reducible apply Below.drew)|(with_reducible apply ap)|(with_reducible refine Below.trans ?_ (Below.mono (by assumption) ?_))|omega|(simp only [World.size_alloc,World.size_setCell,World.size_drew];omega)))⟩
 · have hz:=dC (l:=l) (n:=szA g.ar) (by omega)
   go_enter Try.func4,Try.ntmps4
   go_wp2_with (go_at_call 16;refine (j7 _ _ _ _ (hA.below (by repeat' (first|(with_reducible exact Below.refl _ _)|(with_reducible assumption)|(with_reducible apply aB)|(with_reducible apply Below.alloc)|(with_reducible apply Below.drew)|(with_reducible apply ap)|(with_reducible refine Below.trans ?_ (Below.mono (by assumption) ?_))|omega|(simp only [World.size_alloc,World.size_setCell,World.size_drew];omega)))) (by omega) (by omega)).mono ?_;rw [hz];rintro e w2 ⟨rfl,hb2⟩;have hcf:=di hb2;obtain ⟨hcell2,hfr2⟩:=hcf)
   go_ret
   exact ⟨cD (by rw [dC];unfold szP;omega),(by repeat' (first|(with_reducible exact Below.refl _ _)|(with_reducible assumption)|(with_reducible apply aB)|(with_reducible apply Below.alloc)|(with_reducible apply Below.drew)|(with_reducible apply ap)|(with_reducible refine Below.trans ?_ (Below.mono (by assumption) ?_))|omega|(simp only [World.size_alloc,World.size_setCell,World.size_drew];omega)))⟩
end Go.Proofs.Ytlodllmpndflcaa
namespace Go.Proofs.Ytlodllmpndflcaa
set_option linter.unusedVariables false
set_option linter.unusedSimpArgs false
open Go.RowKit Go.ChangeShapes Go.WideShapes Go.ChangeAt Go.Deep Go.Joins
section
variable {H : Type} {enc : TypeId × Value → H} {W : World} {base : Nat}
set_option maxRecDepth 100000 in
theorem sI {r : Reach} {b0 : Nat} {v : Value} {d : DataW H} {p : List MemPlace} (hv : Value.okWide Try.prog W r b0 22 v) (h : DataW.Trod enc Try.prog W base (fun _=>true) true 22 v d p) : ∃ xs,IsI W v xs ∧ Wf xs:=by
 obtain ⟨a,n,c,rfl⟩:=okWide_slice Try.underlying22 hv
 obtain ⟨fuel,hf⟩:=h
 simp [Value.cells] at hf
 exact po hf
end
end Go.Proofs.Ytlodllmpndflcaa
