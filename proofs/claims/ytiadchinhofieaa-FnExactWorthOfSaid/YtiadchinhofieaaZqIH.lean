/-
  WorthOf as the law's walk wants it.
-/
import Derived.Test.YtiadchinhofieaaZqIEw
import Derived.Test.YtiadchinhofieaaZqM3
import Derived.Test.YtiadchinhofieaaZqWoA
namespace Go.Proofs.Ytiadchinhofieaa
set_option linter.unusedVariables false
set_option linter.unusedSimpArgs false
open Go.RowKit
theorem oG {φ : Nat → Loc} {hp : Hp} {w : World} {a b : AV} {v : Value} (h : AVC φ hp w (.tup [a,b]) v) : ∃ x y,v = .tuple #[x,y] ∧ AVC φ hp w a x ∧ AVC φ hp w b y:=by
 obtain ⟨vs,e,hl,hv⟩:=mu h
 match vs,hl with
 | [x, y], _ => exact ⟨x, y, e, hv 0 (show 0 < 2 by decide), hv 1 (show 1 < 2 by decide)⟩
theorem oH {P : Program} {f : FuncId} {args : List AV} {x : Wo} {b : Bool} {nn : Fl} {w : World} {vs : List Value} (hF : bt P f args [.arr 2 nn (.I x.over)] (fun ns=>.tup [.agg [.c (.int .i64 x.head),.sl (ns.getD 0 0),.c (.int .i64 x.way)],.c (.bool b)])) (hh : nn.hd = true) (hv : AVs φ00 h00 w args vs) : Calls P f vs.toArray w (qP w x b):=by
 refine (hF.2 φ00 h00 w vs (fun _ _ h=>by cases h) (wF w) hv.at.1 hv.at.2).mono fun e w' ⟨v,he,ho⟩=>?_
 obtain ⟨φ',H,_,ha⟩:=ho [0] rfl (by decide) (fun _ _=>rfl)
 have l0 : cP (bE h00 []) [0] [Ent.arr 2 nn (.I x.over)] 0 = some (.arr 2 nn (.I x.over)):=rfl
 have o0:=uc (H.ent 0 _ l0) hh fun b hb=>H.lo 0 b ⟨_,l0,(by show 1 < 2;decide)⟩ hb
 obtain ⟨v1,v2,rfl,a1,a2⟩:=oG ha
 have e2:=fa a2
 subst e2
 obtain ⟨xs,ex,hx⟩:=kq a1
 match xs,hx with
 | [va, vb, vc], .cons b1 (.cons b2 (.cons b3 .nil)) =>
   have e1:=cW b1
   have e3:=cW b3
   have e4 : vb = (φ' 0).val:=vv b2 l0
   obtain ⟨s0,n0,c0,q0⟩:=rQ (φ' 0)
   rw [q0] at o0 e4
   subst e1;subst e3;subst e4;subst ex
   exact ⟨_,s0,n0,c0,_,he,⟨_,rfl,o0⟩,H.fr⟩
theorem ma {P : Program} {f : FuncId} {args : List AV} {w : World} {vs : List Value} {b : Bool} (hF : bt P f args [] (fun _=>.tup [.agg [.c (.int .i64 0),.c .nul,.c (.int .i64 0)],.c (.bool b)])) (hv : AVs φ00 h00 w args vs) : Calls P f vs.toArray w (qP w ⟨0,[],0⟩ b):=by
 refine (hF.2 φ00 h00 w vs (fun _ _ h=>by cases h) (wF w) hv.at.1 hv.at.2).mono fun e w' ⟨v,he,ho⟩=>?_
 obtain ⟨φ',H,_,ha⟩:=ho [] rfl List.nodup_nil (fun _ h=>by cases h)
 obtain ⟨v1,v2,rfl,a1,a2⟩:=oG ha
 have e2:=fa a2
 subst e2
 obtain ⟨xs,ex,hx⟩:=kq a1
 match xs,hx with
 | [va, vb, vc], .cons b1 (.cons b2 (.cons b3 .nil)) =>
   have e1:=cW b1
   have e3:=cW b3
   have e4:=gy b2
   subst e1;subst e3;subst e4;subst ex
   exact ⟨_,none,0,0,_,he,⟨_,rfl,nc _ _ _ _⟩,H.fr⟩
open Classical in

noncomputable def wrN (g : Pa) (even odd : List Int) (v : Int) : Wo:=if j7 g even odd v then ⟨(wtF g (nxP g.ar even odd) v.toNat).hd,(wtF g (nxP g.ar even odd) v.toNat).ov,(wtF g (nxP g.ar even odd) v.toNat).wy⟩ else ⟨0,[],0⟩
theorem ud (g : Pa) (even odd : List Int) (v : Int) : szW (wrN g even odd v) ≤ 1048576:=by
 unfold wrN
 split
 · rename_i h
   have h1 : (wtF g (nxP g.ar even odd) v.toNat).ov.length ≤ g.prio.length:=ml _ _
   have:=h.1.2
   show (wtF g (nxP g.ar even odd) v.toNat).ov.length ≤ _
   omega
 · exact Nat.zero_le _
theorem qQ {g : Pa} {even odd : List Int} {v : Int} (h : j7 g even odd v) : ∃ n : Nat,v = n ∧ n < g.prio.length:=by
 have h1:=h.2.2
 have hl:=h.1.1.len
 unfold ff at h1
 exact ⟨v.toNat,by omega,by omega⟩
theorem mb (v u x : Value) (g : Pa) (even odd : List Int) (z : Int) (w : World) (hP : IsP w v g) (hA : IsI w u even) (hB : IsI w x odd) : Calls Try.prog 34 #[v,u,x,.int .i64 z] w (qP w (wrN g even odd z) (tf (j7 g even odd z))):=by
 have ha : AVs φ00 h00 w [paA g,.c (.I even),.c (.I odd),.c (.int .i64 z)] [v,u,x,.int .i64 z]:=.cons (yt hP) (.cons (rs hA) (.cons (rs hB) (.cons (yr _ _) .nil)))
 by_cases h : j7 g even odd z
 · obtain ⟨n,rfl,hn⟩:=qQ h
   rw [wrN,if_pos h,aP h,Int.toNat_natCast]
   exact oH (vs:=[v,u,x,.int .i64 n]) (x:=⟨_,_,_⟩) (oD g h.1 even odd h.2.1.1.2 h.2.1.2 n hn) rfl ha
 · rw [wrN,if_neg h,aC h]
   exact ma (vs:=[v,u,x,.int .i64 z]) (rO g even odd z h) ha
theorem rS (v u x : Value) (g : Pa) (even odd : List Int) (z : Int) (w : World) (hP : IsP w v g) (hA : IsI w u even) (hB : IsI w x odd) : Calls Try.prog 32 #[v,u,x,.int .i64 z] w (qP w (wrN g even odd z) (tf (j7 g even odd z))):=by
 have ha : AVs φ00 h00 w [paA g,.c (.I even),.c (.I odd),.c (.int .i64 z)] [v,u,x,.int .i64 z]:=.cons (yt hP) (.cons (rs hA) (.cons (rs hB) (.cons (yr _ _) .nil)))
 by_cases h : j7 g even odd z
 · obtain ⟨n,rfl,hn⟩:=qQ h
   rw [wrN,if_pos h,aP h,Int.toNat_natCast]
   exact oH (vs:=[v,u,x,.int .i64 n]) (x:=⟨_,_,_⟩) (t7 g h.1 even odd h.2.1.1.2 h.2.1.2 n hn) rfl ha
 · rw [wrN,if_neg h,aC h]
   exact ma (vs:=[v,u,x,.int .i64 z]) (rP g even odd z h) ha
end Go.Proofs.Ytiadchinhofieaa
