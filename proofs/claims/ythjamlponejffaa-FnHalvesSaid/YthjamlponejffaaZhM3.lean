/-
  A contract in the old words whose function hands back a new list, as a contract in the new ones.
-/
import Derived.Test.YthjamlponejffaaZhCb
import Derived.Test.YthjamlponejffaaZhFc
namespace Go.Proofs.Ythjamlponejffaa
set_option linter.unusedVariables false
set_option linter.unusedSimpArgs false
open Go.RowKit
theorem j8 {P : Program} {f : FuncId} {args : List AV} {fn : Func} (hf : P.funcs[f]? = some fn) (hb : fn.body.isNone = false) (hname : (fn.name == "runtime.NumGoroutine") = false) {xs : List Int}
  (h : ∀ φ hp w (vs : List Value),AVs φ hp w args vs → Calls P f vs.toArray w (eg w xs)) : ap P f args [.arr 2 .may (.I xs)] (fun ns=>.sl (ns.getD 0 0)):=by
 unfold ap
 refine ⟨⟨fn,hf,hb,hname⟩,fun φ0 hp0 w vs hX H hl hv=>(h φ0 hp0 w vs (.of hl hv)).mono fun e w' ⟨s,n,c,he,ho,hbw⟩=>⟨_,he,?_⟩⟩
 intro ν hl hn hf
 match ν,hl with
 | [ν], _ =>
   have hν : hp0 ν = none:=hf ν (by simp)
   rcases ho with ⟨e1,e2⟩|⟨b,cap,cur,e1,e2,e3,e4,e5,e6,e7,e8⟩
   · have hz : xs.length = 0:=by have:=congrArg List.length e2;simpa using this
     obtain ⟨p1,p2⟩:=H.put hν (fz:=[]) (fun x hx=>by cases hx) (loc:=.nil) (e:=.arr 2 .may (.I xs)) hbw hbw.size (fun g' hg'=>by cases hg') (fun b' hb' _=>hbw.block b' hb') (fun _=>⟨_,rfl,rfl,.inl ⟨rfl,hz,rfl⟩⟩)
     refine ⟨_,p1,p2,?_⟩
     rw [e1]
     refine (congrArg (AVC _ _ w' (.sl ν)) ?_).mp (AVC.sl (ν:=ν) (e:=.arr 2 .may (.I xs)) (bn _ _ _) rfl)
     rw [bn];rfl
   · rw [List.length_map] at e1 e5 e8
     obtain ⟨p1,p2⟩:=H.put hν (fz:=[]) (fun x hx=>by cases hx) (loc:=.at b 0 xs.length cap 1) (e:=.arr 2 .may (.I xs)) hbw hbw.size (fun g' hg'=>.inl (by injection hg' with hg';omega)) (fun b' hb' _=>hbw.block b' hb') (fun _=>by
      refine ⟨_,rfl,rfl,.inr ⟨b,0,cap,cur,rfl,e4,e5,by unfold maxLen at e6;omega,(by show 0 + cap * 1 ≤ _;omega),fun _=>⟨rfl,(by show cap * 1 = _;omega)⟩,fun i hi j hj=>?_⟩⟩
      have hj0 : j = 0:=by have : j < 1:=hj;omega
      subst hj0
      have hi' : i < xs.length:=hi
      have hc : cur[i]? = some (.int .i64 (gi xs i)):=by
       have h8:=congrArg (fun l=>l[i]?) e8
       simp only [List.getElem?_take,List.getElem?_map,hi',if_true,Array.getElem?_toList] at h8
       rw [h8,gi,List.getD_eq_getElem?_getD,List.getElem?_eq_getElem hi']
       rfl
      exact ⟨_,by rw [show 0 + (i * 1 + 0) = i by omega];exact hc,.int _ _⟩)
     refine ⟨_,p1,p2,?_⟩
     rw [e1]
     refine (congrArg (AVC _ _ w' (.sl ν)) ?_).mp (AVC.sl (ν:=ν) (e:=.arr 2 .may (.I xs)) (bn _ _ _) rfl)
     rw [bn];rfl
theorem sE {φ : Nat → Loc} {hp : Hp} {w : World} {loc : Loc} {nn : Fl} {xs : List Int} (h : gT φ hp w loc (.arr 2 nn (.I xs))) (hh : nn.hd = true) {lo : Nat} (hlo : ∀ b,loc.blk = some b → lo ≤ b) : bp lo w.heap.size w loc.val xs :=
 t6 h hh rfl rfl hlo (by simp) fun i v hi hr=>by
  have hi' : i < xs.length:=hi
  cases hr with
  | sl hv' => simp [C.view] at hv'
  | int => simp [gi, List.getD_eq_getElem?_getD, List.getElem?_eq_getElem hi']
theorem uF {φ : Nat → Loc} {hp : Hp} {w : World} {ν : Nat} {v : Value} {T : TypeId} {nn : Fl} {c : C} (h : AVC φ hp w (.sl ν) v) (he : hp ν = some (.arr T nn c)) : v = (φ ν).val:=by
 cases h with
 | sl h hk => rfl
 | sld h hk v hv => rw [he] at h; injection h with h; subst h; simp [Ent.kind] at hk
theorem qI (l : Loc) : ∃ s n c,l.val = .slice s n c:=by cases l <;> exact ⟨_,_,_,rfl⟩
theorem pz {P : Program} {f : FuncId} {args : List AV} {xs : List Int} {nn : Fl} {w : World} {vs : List Value} (hF : ap P f args [.arr 2 nn (.I xs)] (fun ns=>.sl (ns.getD 0 0))) (hh : nn.hd = true) (hv : AVs φ00 h00 w args vs) : Calls P f vs.toArray w (eg w xs):=by
 refine (hF.2 φ00 h00 w vs (fun _ _ h=>by cases h) (v3 w) hv.at.1 hv.at.2).mono fun e w' ⟨v,he,ho⟩=>?_
 obtain ⟨φ',H,_,ha⟩:=ho [0] rfl (by decide) (fun _ _=>rfl)
 have l0 : bS (ba h00 []) [0] [Ent.arr 2 nn (.I xs)] 0 = some (.arr 2 nn (.I xs)):=rfl
 have o0:=sE (H.ent 0 _ l0) hh fun b hb=>H.lo 0 b ⟨_,l0,(by show 1 < 2;decide)⟩ hb
 have e1 : v = (φ' 0).val:=uF ha l0
 obtain ⟨s0,n0,c0,q0⟩:=qI (φ' 0)
 rw [q0] at o0 e1
 subst e1
 exact ⟨s0,n0,c0,he,o0,H.fr⟩
theorem j9 {P : Program} {f : FuncId} {args : List AV} {w : World} {vs : List Value} (hF : ap P f args [] (fun _=>.c .nul)) (hv : AVs φ00 h00 w args vs) : Calls P f vs.toArray w (eg w []):=by
 refine (hF.2 φ00 h00 w vs (fun _ _ h=>by cases h) (v3 w) hv.at.1 hv.at.2).mono fun e w' ⟨v,he,ho⟩=>?_
 obtain ⟨φ',H,_,ha⟩:=ho [] rfl List.nodup_nil (fun _ h=>by cases h)
 have e1:=gC ha
 subst e1
 exact ⟨none,0,0,he,l8 _ _ _ _,H.fr⟩
end Go.Proofs.Ythjamlponejffaa
