/-
  worthsOf of the program: the list owns everything that it holds.
-/
import Derived.Test.YtlodllmpndflcaaZoZD
import Derived.Lib.SliceRun
namespace Go.Proofs.Ytlodllmpndflcaa
set_option linter.unusedVariables false
set_option linter.unusedSimpArgs false
open Go.RowKit
attribute [local go_sem ↓] Go.wp_at_zero Go.wp_at_succ
attribute [local go_sem] Option.isNone_none Option.isNone_some
noncomputable def wF (g : Pa) (σ : List Int) (k u : Nat) : Wt:=if k = 0 then zWt else wst g σ k u
noncomputable def wG (g : Pa) (σ : List Int) (k v u : Nat) : Wt:=if u < v then wst g σ (k + 1) u else wF g σ k u
def tI (n : Nat) (q : Nat → Prop) (cs : List Value) : Prop:=∀ u,u < n → (q u → cs[u * 3 + 1]? = some (.slice none 0 0)) ∧ (¬ q u → ∃ a m c,cs[u * 3 + 1]? = some (.slice (some a) m c))
def sy (w : World) (n : Nat) (f : Nat → Wt) (e : Ending) (w' : World) : Prop:=∃ (gO cap : Nat) (cs : List Value),e = .returned (.slice (some ⟨gO,0,none⟩) n cap) ∧ WgL w.heap.size w'.heap.size w' gO n cap cs f ∧ Below w.heap.size w w'
theorem tJ {w w' : World} {r : Option Nat} {B : Nat} {cs : List Value} {T : TypeId} (h : Blk w B cs T) (hg : w.grownBy w' r) (hr : r ≠ some B) : Blk w' B cs T:=(hg.block B h.lt fun e=>hr e.symm).trans h
theorem gG {w : World} {B : Nat} {cs : List Value} {T : TypeId} (h : B = w.heap.size) : Blk (w.alloc (.cells cs.toArray T)) B cs T:=by subst h;exact eM w cs T
theorem f9 {K : Act → World → Prop} {Q : Exit → Act → World → Prop} {e : Exit} {a : Act} {W : World} (F : World → Prop) (hF : F W) (h : ∀ W',F W' → Exit.then K Q e a W') : Exit.then K Q e a W:=h W hF
theorem WgL.off {lo hi : Nat} {w : World} {gO n cap : Nat} {cs : List Value} {f : Nat → Wt} (h : WgL lo hi w gO n cap cs f) {q : Nat} (hq : hi ≤ q) (i : Nat) (u : Value) : WgL lo hi (w.setCell ⟨q,i,none⟩ u) gO n cap cs f:=by
 have ht:=h.top
 refine h.keep (fL h.row (Below.heap_setCell _ _ _ _ (fun e=>?_))) h.top fun v xs ho=>bH.other ho (fun e=>?_) _ _
 · have e : gO = q:=e
   omega
 · have:=(bj.blks ho q e).2
   omega
theorem eH {lo hi B : Nat} {w : World} {v : Value} {xs : List Int} {cs : List Value} {T : TypeId} (h : bj lo hi w v xs) (hk : Blk w B cs T) (hne : 2 ≠ T) : blk v ≠ some B:=by
 intro hb
 rcases h with ⟨rfl,_⟩|⟨g',cap',cur',rfl,_,_,k1,_⟩
 · cases hb
 · simp only [blk,Value.ownBlock,Option.some.injEq] at hb
   subst hb
   have h2 : w.heap[g']? = some (.cells cs.toArray T (0,0)):=hk
   rw [k1] at h2
   simp only [Option.some.injEq,Obj.cells.injEq] at h2
   exact hne h2.2.1
theorem lR {lo hi : Nat} {w : World} {m c : Nat} {xs : List Int} (h : bj lo hi w (.slice none m c) xs) : m = 0 ∧ c = 0 ∧ xs = []:=by
 rcases h with ⟨e0,e⟩|⟨g',cap',cur',e,_⟩
 · cases e0;exact ⟨rfl,rfl,by simpa using e⟩
 · cases e
theorem j5 {lo hi : Nat} {w : World} {ad : Addr} {m c : Nat} {xs : List Int} (h : bj lo hi w (.slice (some ad) m c) xs) : ∃ q,ad = ⟨q,0,none⟩ ∧ lo ≤ q:=by
 rcases h with ⟨e0,e⟩|⟨g',cap',cur',e,hl,_⟩
 · cases e0
 · cases e;exact ⟨g',rfl,hl⟩
structure InvW (g : Pa) (σ : List Int) (k : Nat) (w : World) (P : List Value) (T : TypeId) (gA ca lo : Nat) (xs : List Int) (hi : Nat) (wx : World) (v : Nat) (cs : List Value) : Prop where
 G : WgL (w.heap.size + 1) hi wx (w.heap.size + 1) g.prio.length g.prio.length cs (wG g σ k v)
 N : tI g.prio.length (fun u=>k = 0 ∧ v ≤ u) cs
 B : Blk wx w.heap.size P T
 A : bj lo hi wx (.slice (some ⟨gA,0,none⟩) g.prio.length ca) xs
 b : Below w.heap.size w wx
 z : w.heap.size + 1 < hi
 h : hi ≤ wx.heap.size
 l : w.heap.size + 1 < lo
section
variable {g : Pa} {σ : List Int} {k : Nat} {w : World} {P : List Value} {T : TypeId} {gA ca lo : Nat} {xs : List Int} {hi : Nat} {wx : World} {v : Nat} {cs : List Value}
theorem InvW.below (h : InvW g σ k w P T gA ca lo xs hi wx v cs) {wy : World} (hb : Below wx.heap.size wx wy) : InvW g σ k w P T gA ca lo xs hi wy v cs :=
 ⟨h.G.below hb,h.N,h.B.below hb,bj.below h.A hb,h.b.trans (hb.mono h.b.size),h.z,Nat.le_trans h.h hb.size,h.l⟩
theorem InvW.off (h : InvW g σ k w P T gA ca lo xs hi wx v cs) {q : Nat} (hq : hi ≤ q) (i : Nat) (u : Value) : InvW g σ k w P T gA ca lo xs hi (wx.setCell ⟨q,i,none⟩ u) v cs:=by
 have hz:=h.z
 refine ⟨h.G.off hq i u,h.N,h.B.other (by omega) _ _,bH.other h.A (fun e=>?_) _ _,aB h.b (by omega) _,h.z,by rw [World.size_setCell];exact h.h,h.l⟩
 have:=(bj.blks h.A q e).2
 omega
theorem InvW.top (h : InvW g σ k w P T gA ca lo xs hi wx v cs) : InvW g σ k w P T gA ca lo xs wx.heap.size wx v cs :=
 ⟨h.G.htop,h.N,h.B,bj.top h.A,h.b,Nat.lt_of_lt_of_le h.z h.h,Nat.le_refl _,h.l⟩
theorem InvW.skip (h : InvW g σ k w P T gA ca lo xs hi wx v cs) (hk : k ≠ 0) (e : wst g σ (k + 1) v = wst g σ k v) : InvW g σ k w P T gA ca lo xs hi wx (v + 1) cs:=by
 refine ⟨h.G.congr fun u hu=>?_,fun u hu=>⟨fun q=>absurd q.1 hk,fun _=>(h.N u hu).2 fun q=>hk q.1⟩,h.B,h.A,h.b,h.z,h.h,h.l⟩
 unfold wG wF
 rw [if_neg hk]
 by_cases h2 : u < v
 · rw [if_pos h2,if_pos (by omega)]
 · rw [if_neg h2]
   by_cases h1 : u = v
   · subst h1;rw [if_pos (by omega),e]
   · rw [if_neg (by omega)]
theorem InvW.put (h : InvW g σ k w P T gA ca lo xs hi wx v cs) (hv : v < g.prio.length) (a : Wt) (e : wst g σ (k + 1) v = a) {ad : Addr} {m c : Nat} (ho : bj hi wx.heap.size wx (.slice (some ad) m c) a.ov) :
  ∃ cs',InvW g σ k w P T gA ca lo xs (((wx.setCell ⟨w.heap.size + 1,v * 3,none⟩ (.int .i64 a.hd)).setCell ⟨w.heap.size + 1,v * 3 + 1,none⟩ (.slice (some ad) m c)).setCell ⟨w.heap.size + 1,v * 3 + 2,none⟩ (.int .i64 a.wy)).heap.size (((wx.setCell ⟨w.heap.size + 1,v * 3,none⟩ (.int .i64 a.hd)).setCell ⟨w.heap.size + 1,v * 3 + 1,none⟩ (.slice (some ad) m c)).setCell ⟨w.heap.size + 1,v * 3 + 2,none⟩ (.int .i64 a.wy)) (v + 1) cs':=by
 have hz:=h.z
 have hh:=h.h
 have hl:=h.l
 have hcl:=h.G.len
 have hG:=(h.G.mono (Nat.le_refl _) h.h).set3 hv a (bj.mono ho (by omega) (Nat.le_refl _)) (fun q hq i u hu hb=>by
  have h1:=(h.G.lt hu q hb).2
  have h2:=(bj.blks ho q hq).1
  omega)
 refine ⟨_,hG.htop.congr fun u hu=>?_,fun u hu=>?_,((h.B.other (by omega) _ _).other (by omega) _ _).other (by omega) _ _,bj.top (bj.off (bj.off (bj.off h.A hl _ _) hl _ _) hl _ _),aB (aB (aB h.b (by omega) _) (by omega) _) (by omega) _,by simp only [World.size_setCell];omega,Nat.le_refl _,h.l⟩
 · unfold wG
   by_cases h1 : u = v
   · subst h1;rw [if_pos rfl,if_pos (by omega),e]
   · rw [if_neg h1]
     by_cases h2 : u < v
     · rw [if_pos h2,if_pos (by omega)]
     · rw [if_neg h2,if_neg (by omega)]
 · rw [List.getElem?_set_ne (by omega)]
   by_cases h1 : u = v
   · subst h1
     rw [List.getElem?_set_self (by simp;omega)]
     exact ⟨fun q=>by omega,fun _=>⟨_,_,_,rfl⟩⟩
   · rw [List.getElem?_set_ne (by omega),List.getElem?_set_ne (by omega)]
     have:=h.N u hu
     exact ⟨fun q=>this.1 ⟨q.1,by omega⟩,fun q=>this.2 fun q'=>q ⟨q'.1,by omega⟩⟩
end
set_option maxRecDepth 100000 in
set_option maxHeartbeats 4000000 in
theorem mL (x y : Value) (g : Pa) (hs : dU g) (σ : List Int) (h0 : cz g.ar 0 σ) (hr : cF g ≤ 4096) (w : World) (hP : IsP w x g) (hI : IsI w y σ) : Calls Try.prog 24 #[x,y] w (sy w g.prio.length (WW g σ)):=by
 have hP0:=hP
 obtain ⟨_,_,_,rfl,⟨s1,n1,c1,rfl,h1⟩,⟨s2,n2,c2,rfl,h2⟩,⟨s3,n3,c3,rfl,h3⟩⟩:=hP
 obtain ⟨s4,n4,c4,rfl,h4⟩:=hI
 have hl:=hs.1.len
 have hpos : 0 < g.prio.length:=by have:=hs.1.ar.pos;omega
 obtain rfl : n4 = g.prio.length:=by have:=h4.1;have:=h0.1.1;omega
 obtain rfl : n1 = g.prio.length:=by have:=h1.1;omega
 obtain rfl : n2 = g.prio.length:=by have:=h2.len;have:=hs.1.ar.len;omega
 obtain rfl : n3 = g.prio.length:=h3.1.symm
 obtain ⟨bo,oo,rfl,hbo,hco⟩:=h1.get hpos
 obtain ⟨bn,on,rfl,hbn,A,La,C,hcn⟩:=h2.get hpos
 have hle:=hs.2
 have HS:=Lib.hid hs
 have H0:=Lib.hid h0
 have HR:=Lib.hid hr
 have hm4:=h4.2.max
 clear hs h0 hr hl
 obtain ⟨i0,hi,hz0,hz1,hz2⟩:=info_parts tH
 have hnq : ∀ (w : World) (a : Option Addr) (n c : Nat),(binOp .eql 22 (.slice a n c) (.slice none 0 0)).run Try.prog w = .ok (.bool a.isNone) w:=fun w a n c=>Go.Lib.run_eql_slice_nil w _ _ a n c 0 0 Try.underlying22
 go_enter Try.func24,Try.ntmps24
 go_wp2_with (at_make;refine wpList_make_full _ rfl _ _ 29 rfl (w.heap.size + 1) 51 i0 (.agg #[.int .i64 0,.slice none 0 0,.int .i64 0]) 3 Try.underlying29 hi hz0 hz1 _ _ _ _ g.prio.length rfl rfl rfl rfl (by rw [hz2];omega) (by unfold maxLen;omega) (by simp) ?_)
 intro w1 hown hgrow
 have hown : w1.ownsRow (w.heap.size + 1) 51 3 (.slice (some ⟨w.heap.size + 1,0,none⟩) g.prio.length g.prio.length) g.prio.length (madeCells #[.int .i64 0,.slice none 0 0,.int .i64 0] (g.prio.length * 3)).toList:=by simpa using hown
 have hB : Blk w1 w.heap.size [.slice (some ⟨bo,oo,none⟩) g.prio.length c1,.slice (some ⟨bn,on,none⟩) g.prio.length c2,.slice s3 g.prio.length c3] 33:=tJ (eM w [.slice (some ⟨bo,oo,none⟩) g.prio.length c1,.slice (some ⟨bn,on,none⟩) g.prio.length c2,.slice s3 g.prio.length c3] 33) hgrow (by simp)
 have hsz : w.heap.size + 1 < w1.heap.size:=(hown.lt _ rfl).2
 have hG:=WgL.made hown hsz
 have hN : tI g.prio.length (fun _=>0 = 0) (madeCells #[Value.int .i64 0,.slice none 0 0,.int .i64 0] (g.prio.length * 3)).toList:=fun u hu=>⟨fun _=>lP _ _ hu,fun h=>absurd rfl h⟩
 have hb : Below w.heap.size w w1:=Below.grown (aL _ _) hgrow (by simp) (fun k h=>by cases h)
 have b0:=hB.cell 0 rfl
 have b1:=hB.cell 1 rfl
 have b2:=hB.cell 2 rfl
 clear hown hgrow
 generalize (madeCells #[Value.int .i64 0,.slice none 0 0,.int .i64 0] (g.prio.length * 3)).toList = cs0 at *
 go_wp2_with (go_at_call 22;refine (qJ _ _ HS.out.1 HR.out _ (hP0.below hb)).mono ?_;rintro e w2 ⟨rfl,hb2⟩)
 have hm:=HR.out
 replace hB:=hB.below hb2
 replace hG:=(hG.below hb2).htop
 replace hb:=hb.trans (hb2.mono hb.size)
 have hz2':=hb2.size
 replace hsz : w.heap.size + 1 < w2.heap.size:=by omega
 clear hb2 b0 b1 b2
 go_loopw [20] (fun i wr=>∃ (k : Nat) (cs : List Value),k ≤ cF g ∧ i = .int .i64 k ∧ WgL (w.heap.size + 1) wr.heap.size wr (w.heap.size + 1) g.prio.length g.prio.length cs (wF g σ k) ∧ tI g.prio.length (fun _=>k = 0) cs ∧ Blk wr w.heap.size [.slice (some ⟨bo,oo,none⟩) g.prio.length c1,.slice (some ⟨bn,on,none⟩) g.prio.length c2,.slice s3 g.prio.length c3] 33 ∧ Below w.heap.size w wr ∧ w.heap.size + 1 < wr.heap.size) (fun i _=>cF g - (intOf i).toNat)
 case atStart=>exact ⟨0,cs0,Nat.zero_le _,rfl,hG.congr fun k _=>(if_pos rfl).symm,fun u hu=>⟨fun _=>(hN u hu).1 trivial,fun h=>absurd rfl h⟩,hB,hb,hsz⟩
 case round =>
  clear hG hN hB hb hsz hz2'
  obtain ⟨k,cs,hk,rfl,hG,hN,hB,hb,hsz⟩:=hrel
  obtain ⟨wo,rfl⟩ : ∃ wo : World,wo = wr:=⟨_,rfl⟩
  have b0:=hB.cell 0 rfl
  have b1:=hB.cell 1 rfl
  have b2:=hB.cell 2 rfl
  by_cases hkl : k < cF g
  · go_wp2_with (go_at_call 39;refine (qK _ g.ar (by have:=HS.out.1.ar.le;omega) _ (hP0.below hb).arena).mono ?_;rintro e w3 ⟨s5,n5,c5,rfl,ho5,hb3⟩;have hB3:=hB.below hb3;have b0':=hB3.cell 0 rfl;have b1':=hB3.cell 1 rfl;have b2':=hB3.cell 2 rfl)
    rw [← HS.out.1.len] at ho5
    have hnl : (noP g.prio.length).length = g.prio.length:=dG _ _
    obtain ⟨gR,cR,eR,hR1,hR2,hR3,-⟩:=bj.at ho5 (k:=0) (by rw [hnl];exact hpos)
    simp only [Value.slice.injEq] at eR
    obtain ⟨rfl,e5,rfl⟩:=eR
    obtain rfl : n5 = g.prio.length:=by omega
    clear e5 hnl b0' b1' b2'
    go_loopw [6,30] (fun r i wx=>∃ v : Nat,v ≤ g.prio.length ∧ i = .int .i64 v ∧ r = .int .i64 ((k / cC g.ar 1 v : Nat) : Int) ∧ bj wo.heap.size wx.heap.size wx (.slice (some ⟨gR,0,none⟩) g.prio.length c5) (tab g.prio.length fun u=>if u < v then gi (cB g.ar 1 k) u else -1) ∧ Below wo.heap.size wo wx) (fun _ i _=>g.prio.length - (intOf i).toNat)
    case atStart =>
     refine ⟨0,Nat.zero_le _,rfl,congrArg (Value.int .i64) (congrArg Nat.cast (Nat.div_one k).symm),?_,hb3⟩
     rw [show (tab g.prio.length fun u=>if u < 0 then gi (cB g.ar 1 k) u else -1) = noP g.prio.length from cX fun i hi=>if_neg (Nat.not_lt_zero _)]
     exact ho5
    case round =>
     clear ho5 hB3 hb3 hR2 hR3
     obtain ⟨v,hv,rfl,rfl,hO,hbx⟩:=hrel
     have hbw:=hb.trans (hbx.mono hb.size)
     replace b0:=aq b0 hbx
     replace b1:=aq b1 hbx
     replace b2:=aq b2 hbx
     by_cases hvl : v < g.prio.length
     · have q1:=aq (hco v hvl) hbw
       obtain ⟨q2,hIv⟩:=hcn v hvl
       replace q2:=aq q2 hbw
       have hvo : v < g.ar.own.length:=by rw [← HS.out.1.len];exact hvl
       have hvv:=(HS.out.1.ar.vert v hvo).2.2
       have hLv:=hIv.1
       obtain ⟨d1,d2,d3⟩:=sv (k:=k) (b:=cC g.ar 1 v) (n:=La v) (by omega)
       have hra:=iI (a:=g.ar) (w:=1) (k:=k) hvo
       obtain ⟨x1,x2,x3,x4⟩:=hO.cell hvl
       obtain ⟨br,orr,er,hbr,hcr⟩:=hIv.get (k:=k / cC g.ar 1 v % La v) d3
       have q3:=aq (hcr _ d3) hbw
       rw [er] at q2
       have hLa : ¬ (La v : Int) = 0:=by omega
       have hLb : La v ≤ 16:=by omega
       have hkb : k / cC g.ar 1 v ≤ k:=Nat.div_le_self _ _
       by_cases e : gi g.ar.own v = 1
       · have hby:=gB e
         rw [if_pos e,hLv] at hra
         rw [hLv] at hby
         rw [← hby] at d2
         have he1 : (gi g.ar.own v == 1) = true:=by simp [e]
         have HBY:=Lib.hid hby
         have HRA:=Lib.hid hra
         have hk2 : k / cC g.ar 1 (v + 1) ≤ k:=Nat.div_le_self _ _
         clear hby hra hLv hcr
         generalize hkc : k / cC g.ar 1 (v + 1) = kc at *
         have HKC:=Lib.hid hkc
         clear hkc
         generalize hkj : k / cC g.ar 1 v % La v = j at *
         generalize k / cC g.ar 1 v = kb at *
         go_wp2_with fail
         go_roundw
         case rel =>
          refine ⟨v + 1,by omega,by go_num,by rw [HKC.out],?_,aB hbx hR1 _⟩
          have h:=bj.top (bj.set hO v (gi (gr g.ar.nxt v) j))
          rwa [← p9 hvl HRA.out.symm] at h
         case measure=>simp [intOf];omega
       · have he1 : (gi g.ar.own v == 1) = false:=by simp [e]
         have hbn':=hH e
         rw [if_neg e] at hra
         go_wp2_with fail
         go_roundw
         case rel =>
          refine ⟨v + 1,by omega,by go_num,by rw [hbn'],?_,hbx⟩
          rwa [qG hra]
         case measure=>simp [intOf];omega
     · obtain rfl : v = g.prio.length:=by omega
       rw [i8 (Nat.le_refl _),mK (by rw [fu,← HS.out.1.len])] at hO
       obtain ⟨wp,rfl⟩ : ∃ wp : World,wp = wr:=⟨_,rfl⟩
       have hSI:=h4.below hbw
       have hslen:=H0.out.1.1
       rw [← HS.out.1.len] at hslen
       clear hvl hv
       go_wp2_with (at_builtin;refine pi rfl _ _ rfl rfl (kg wp.heap.size wp 0 (Nat.le_refl _)) rfl (hSI.alloc _) (by simp;omega) (by simp) ?_;intro sa ca w5 hoa hOa)
       have hba : Below wp.heap.size wp w5:=rh (Below.refl _ _) hOa
       have hoa : bj wp.heap.size w5.heap.size w5 (.slice sa g.prio.length ca) σ:=by simpa using hoa
       obtain ⟨gA,cA,eA,hA1,hA2,hA3,-⟩:=bj.at hoa (k:=0) (by omega)
       simp only [Value.slice.injEq] at eA
       obtain ⟨rfl,-,rfl⟩:=eA
       clear hOa
       go_loopw [62] (fun i wx=>∃ v : Nat,v ≤ g.prio.length ∧ i = .int .i64 v ∧ bj wp.heap.size wx.heap.size wx (.slice (some ⟨gA,0,none⟩) g.prio.length ca) (tab g.prio.length fun u=>if u < v then ((nxP g.ar σ (cB g.ar 1 k) u : Nat) : Int) else gi σ u) ∧ Below wp.heap.size wp wx) (fun i _=>g.prio.length - (intOf i).toNat)
       case atStart =>
        refine ⟨0,Nat.zero_le _,rfl,?_,hba⟩
        rw [show (tab g.prio.length fun u=>if u < 0 then ((nxP g.ar σ (cB g.ar 1 k) u : Nat) : Int) else gi σ u) = σ from (cX fun i hi=>if_neg (Nat.not_lt_zero _)).trans (mK hslen)]
        exact hoa
       case round =>
        clear hoa hba hA2 hA3
        obtain ⟨v,hv,rfl,hA,hby⟩:=hrel
        by_cases hvl : v < g.prio.length
        · have r1:=aq (hO.cell hvl).1 hby
          obtain ⟨x1,x2,x3,x4⟩:=hA.cell hvl
          have hx:=(qI HS.out.1 H0.out (fJ HS.out.1.ar 1 k) hvl).1
          rw [dj _ hvl,if_neg (Nat.lt_irrefl _)] at x1
          go_wp2_with fail
          go_roundw
          case rel =>
           refine ⟨v + 1,by omega,by go_num,?_,aB hby hA1 _⟩
           have h:=bj.top (bj.set hA v ((nxP g.ar σ (cB g.ar 1 k) v : Nat) : Int))
           rwa [← p9 (f:=fun u=>((nxP g.ar σ (cB g.ar 1 k) u : Nat) : Int)) hvl rfl] at h
          case measure=>simp [intOf];omega
        · obtain rfl : v = g.prio.length:=by omega
          rw [i8 (Nat.le_refl _)] at hA
          obtain ⟨wq,rfl⟩ : ∃ wq : World,wq = wr:=⟨_,rfl⟩
          have hbq : Below wo.heap.size wo wq:=hbx.trans (hby.mono hbx.size)
          replace hG:=(hG.below hbq).htop
          replace hB:=hB.below hbq
          have hzq:=hbq.size
          have hzp:=hbx.size
          replace hbw : Below w.heap.size w wq:=hb.trans (hbq.mono hb.size)
          have hAlo : w.heap.size + 1 < wp.heap.size:=by omega
          replace hsz : w.heap.size + 1 < wq.heap.size:=by omega
          clear b0 b1 b2 hO hby hbx hbq hv hvl hSI
          go_wp2_with fail
          have hInv : InvW g σ k w [.slice (some ⟨bo,oo,none⟩) g.prio.length c1,.slice (some ⟨bn,on,none⟩) g.prio.length c2,.slice s3 g.prio.length c3] 33 gA ca wp.heap.size (tab g.prio.length fun u=>((nxP g.ar σ (cB g.ar 1 k) u : Nat) : Int)) wq.heap.size wq 0 cs :=
           ⟨hG.congr fun u _=>(if_neg (Nat.not_lt_zero _)).symm,fun u hu=>⟨fun h=>(hN u hu).1 h.1,fun h=>(hN u hu).2 fun e=>h ⟨e,Nat.zero_le _⟩⟩,hB,hA,hbw,hsz,Nat.le_refl _,hAlo⟩
          clear hG hN hB hA hsz hzq hzp hAlo
          go_loopw [79] (fun i wx=>∃ (v : Nat) (cs : List Value),v ≤ g.prio.length ∧ i = .int .i64 v ∧ InvW g σ k w [.slice (some ⟨bo,oo,none⟩) g.prio.length c1,.slice (some ⟨bn,on,none⟩) g.prio.length c2,.slice s3 g.prio.length c3] 33 gA ca wp.heap.size (tab g.prio.length fun u=>((nxP g.ar σ (cB g.ar 1 k) u : Nat) : Int)) wx.heap.size wx v cs) (fun i _=>g.prio.length - (intOf i).toNat)
          case atStart=>exact ⟨0,cs,Nat.zero_le _,rfl,hInv⟩
          case round =>
           clear hInv hbw
           obtain ⟨v,cs,hv,rfl,hInv⟩:=hrel
           have hbw:=hInv.b
           have b0:=hInv.B.cell 0 rfl
           have b1:=hInv.B.cell 1 rfl
           have b2:=hInv.B.cell 2 rfl
           by_cases hvl : v < g.prio.length
           · have hF:=mE HS.out H0.out (fJ HS.out.1.ar 1 k)
             have hfx : ∀ x,x < g.prio.length → gi (tab g.prio.length fun u=>((nxP g.ar σ (cB g.ar 1 k) u : Nat) : Int)) x = (nxP g.ar σ (cB g.ar 1 k) x : Nat) ∧ nxP g.ar σ (cB g.ar 1 k) x < g.prio.length:=fun x hx=>⟨dj _ hx,hF x hx⟩
             have HF:=Lib.hid hF
             have HFX:=Lib.hid hfx
             clear hF hfx
             have hA:=hInv.A
             obtain ⟨L,hL⟩ : ∃ L,L = wr.heap.size:=⟨_,rfl⟩
             go_wp2_with fail
             go_region_held3 (fun w'=>w'.cell? ⟨w.heap.size,0,none⟩ = some (.slice (some ⟨bo,oo,none⟩) g.prio.length c1) ∧ w'.cell? ⟨w.heap.size,1,none⟩ = some (.slice (some ⟨bn,on,none⟩) g.prio.length c2) ∧ w'.cell? ⟨w.heap.size,2,none⟩ = some (.slice s3 g.prio.length c3)) (exact ⟨aq b0 (by repeat' (first|(with_reducible exact Below.refl _ _)|(with_reducible assumption)|(with_reducible apply aB)|(with_reducible apply Below.alloc)|(with_reducible apply Below.drew)|(with_reducible apply ap)|(with_reducible refine Below.trans ?_ (Below.mono (by assumption) ?_))|omega|(simp only [World.size_alloc,World.size_setCell,World.size_drew];omega))),aq b1 (by repeat' (first|(with_reducible exact Below.refl _ _)|(with_reducible assumption)|(with_reducible apply aB)|(with_reducible apply Below.alloc)|(with_reducible apply Below.drew)|(with_reducible apply ap)|(with_reducible refine Below.trans ?_ (Below.mono (by assumption) ?_))|omega|(simp only [World.size_alloc,World.size_setCell,World.size_drew];omega))),aq b2 (by repeat' (first|(with_reducible exact Below.refl _ _)|(with_reducible assumption)|(with_reducible apply aB)|(with_reducible apply Below.alloc)|(with_reducible apply Below.drew)|(with_reducible apply ap)|(with_reducible refine Below.trans ?_ (Below.mono (by assumption) ?_))|omega|(simp only [World.size_alloc,World.size_setCell,World.size_drew];omega)))⟩)
              (first
               | (go_at_call 41; refine (qM _ _ (by omega) _ (dG _ _) _ HFX.out v hvl _ ((bj.is hA).below (by repeat' (first | (with_reducible exact Below.refl _ _) | (with_reducible assumption) | (with_reducible apply aB) | (with_reducible apply Below.alloc) | (with_reducible apply Below.drew) | (with_reducible apply ap) | (with_reducible refine Below.trans ?_ (Below.mono (by assumption) ?_)) | omega | (simp only [World.size_alloc, World.size_setCell, World.size_drew]; omega))))).mono ?_; rintro e w6 ⟨p, rfl, hp, hb6⟩; have hB6 : Below wr.heap.size wr w6 := (by repeat' (first | (with_reducible exact Below.refl _ _) | (with_reducible assumption) | (with_reducible apply aB) | (with_reducible apply Below.alloc) | (with_reducible apply Below.drew) | (with_reducible apply ap) | (with_reducible refine Below.trans ?_ (Below.mono (by assumption) ?_)) | omega | (simp only [World.size_alloc, World.size_setCell, World.size_drew]; omega))); have hz6 : wr.heap.size ≤ w6.heap.size := hB6.size; try (have hk6 : Blk w6 wr.heap.size [.int .i64 0, .slice none 0 0, .int .i64 0] 51 := by (first | exact (gG (by simp)).below hb6 | exact (gG (by simp)).drew.below hb6)))
               | (go_at_call 40; refine (oS _ _ _ HS.out HF.out hvl _ ((hP0.below hbw).below (by repeat' (first | (with_reducible exact Below.refl _ _) | (with_reducible assumption) | (with_reducible apply aB) | (with_reducible apply Below.alloc) | (with_reducible apply Below.drew) | (with_reducible apply ap) | (with_reducible refine Below.trans ?_ (Below.mono (by assumption) ?_)) | omega | (simp only [World.size_alloc, World.size_setCell, World.size_drew]; omega)))) (hp.below (by repeat' (first | (with_reducible exact Below.refl _ _) | (with_reducible assumption) | (with_reducible apply aB) | (with_reducible apply Below.alloc) | (with_reducible apply Below.drew) | (with_reducible apply ap) | (with_reducible refine Below.trans ?_ (Below.mono (by assumption) ?_)) | omega | (simp only [World.size_alloc, World.size_setCell, World.size_drew]; omega))))).mono ?_; rintro e w7 ⟨s7, m7, c7, rfl, ho7, hb7⟩; have hB7 : Below wr.heap.size wr w7 := (by repeat' (first | (with_reducible exact Below.refl _ _) | (with_reducible assumption) | (with_reducible apply aB) | (with_reducible apply Below.alloc) | (with_reducible apply Below.drew) | (with_reducible apply ap) | (with_reducible refine Below.trans ?_ (Below.mono (by assumption) ?_)) | omega | (simp only [World.size_alloc, World.size_setCell, World.size_drew]; omega))); have hz7 : wr.heap.size ≤ w7.heap.size := hB7.size; have hq7 : bj L w7.heap.size w7 (.slice s7 m7 c7) (wtF g (nxP g.ar σ (cB g.ar 1 k)) v).ov := bj.mono ho7 (by (try simp only [World.size_alloc, World.size_drew]); omega) (Nat.le_refl _); first | (have hk7 : Blk w7 wr.heap.size [.int .i64 0, .slice none 0 0, .int .i64 0] 51 := (by first | exact hk6.below hb7 | exact (hk6.drew).below hb7); have y0 := hk7.cell 0 rfl; have y1 := hk7.cell 1 rfl; have y2 := hk7.cell 2 rfl; have z0 := hk7.free 0; have z1 := hk7.free 1; have z2 := hk7.free 2) | (have hk7 : Blk w7 w6.heap.size [.int .i64 0, .slice none 0 0, .int .i64 0] 51 := (by first | exact (gG (by simp)).below hb7 | exact (gG (by simp)).drew.below hb7); have y0 := hk7.cell 0 rfl; have y1 := hk7.cell 1 rfl; have y2 := hk7.cell 2 rfl; have z0 := hk7.free 0; have z1 := hk7.free 1; have z2 := hk7.free 2) | skip))
             all_goals
              first
               | (refine f9 (fun W => L ≤ w7.heap.size ∧ Below L wr W ∧ Blk W (w7.heap.size) [.int .i64 (wtF g (nxP g.ar σ (cB g.ar 1 k)) v).hd, .slice s7 m7 c7, .int .i64 (wtF g (nxP g.ar σ (cB g.ar 1 k)) v).wy] 51 ∧ bj L W.heap.size W (.slice s7 m7 c7) (wtF g (nxP g.ar σ (cB g.ar 1 k)) v).ov) ⟨by omega, by rw [hL]; exact (by repeat' (first | (with_reducible exact Below.refl _ _) | (with_reducible assumption) | (with_reducible apply aB) | (with_reducible apply Below.alloc) | (with_reducible apply Below.drew) | (with_reducible apply ap) | (with_reducible refine Below.trans ?_ (Below.mono (by assumption) ?_)) | omega | (simp only [World.size_alloc, World.size_setCell, World.size_drew]; omega))), eM _ _ _, bj.top (bj.alloc hq7 _)⟩ ?_
                  intro W;generalize w7.heap.size = gW;rintro ⟨hLg,hBW,hkW,hoW⟩)
               | (refine f9 (fun W => L ≤ w6.heap.size ∧ Below L wr W ∧ Blk W (w6.heap.size) [.int .i64 (wtF g (nxP g.ar σ (cB g.ar 1 k)) v).hd, .slice s7 m7 c7, .int .i64 (wtF g (nxP g.ar σ (cB g.ar 1 k)) v).wy] 51 ∧ bj L W.heap.size W (.slice s7 m7 c7) (wtF g (nxP g.ar σ (cB g.ar 1 k)) v).ov) ⟨by omega, by rw [hL]; exact (by repeat' (first | (with_reducible exact Below.refl _ _) | (with_reducible assumption) | (with_reducible apply aB) | (with_reducible apply Below.alloc) | (with_reducible apply Below.drew) | (with_reducible apply ap) | (with_reducible refine Below.trans ?_ (Below.mono (by assumption) ?_)) | omega | (simp only [World.size_alloc, World.size_setCell, World.size_drew]; omega))), ((hk7.set 0 _).set 1 _).set 2 _, bj.top (bH.other (bH.other (bH.other hq7 (eH hq7 hk7 (by decide)) _ _) (eH hq7 hk7 (by decide)) _ _) (eH hq7 hk7 (by decide)) _ _)⟩ ?_
                  intro W;generalize w6.heap.size = gW;rintro ⟨hLg,hBW,hkW,hoW⟩)
               | (refine f9 (fun W => L ≤ wr.heap.size ∧ Below L wr W ∧ Blk W (wr.heap.size) [.int .i64 (wtF g (nxP g.ar σ (cB g.ar 1 k)) v).hd, .slice s7 m7 c7, .int .i64 (wtF g (nxP g.ar σ (cB g.ar 1 k)) v).wy] 51 ∧ bj L W.heap.size W (.slice s7 m7 c7) (wtF g (nxP g.ar σ (cB g.ar 1 k)) v).ov) ⟨by omega, by rw [hL]; exact (by repeat' (first | (with_reducible exact Below.refl _ _) | (with_reducible assumption) | (with_reducible apply aB) | (with_reducible apply Below.alloc) | (with_reducible apply Below.drew) | (with_reducible apply ap) | (with_reducible refine Below.trans ?_ (Below.mono (by assumption) ?_)) | omega | (simp only [World.size_alloc, World.size_setCell, World.size_drew]; omega))), ((hk7.set 0 _).set 1 _).set 2 _, bj.top (bH.other (bH.other (bH.other hq7 (eH hq7 hk7 (by decide)) _ _) (eH hq7 hk7 (by decide)) _ _) (eH hq7 hk7 (by decide)) _ _)⟩ ?_
                  intro W;generalize wr.heap.size = gW;rintro ⟨hLg,hBW,hkW,hoW⟩)
             all_goals
              rw [hL] at hLg hBW hoW
              have hI:=hInv.below hBW
              have hWs:=hBW.size
              clear hL hq7 hInv b0 b1 b2 hA hbw
              have hbw:=hI.b
              have hgz:=hI.z
              have hkl:=hkW.lt
              have b0:=hI.B.cell 0 rfl
              have b1:=hI.B.cell 1 rfl
              have b2:=hI.B.cell 2 rfl
              have d0:=hkW.cell 0 rfl
              have d1:=hkW.cell 1 rfl
              have d2:=hkW.cell 2 rfl
              have p0:=cG hI.G.row (hI.G.hd v hvl)
              have p2:=cG hI.G.row (hI.G.wy v hvl)
              have hwG : wG g σ k v v = wF g σ k v:=if_neg (Nat.lt_irrefl _)
              have hq1 : ¬ gW = w.heap.size + 1:=by omega
              have hq2 : ¬ w.heap.size + 1 = gW:=by omega
              rw [hwG] at p0 p2
              by_cases k0 : k = 0
              · have p1:=cG hI.G.row ((hI.N v hvl).1 ⟨k0,Nat.le_refl _⟩)
                have hst : wst g σ (k + 1) v = wtF g (nxP g.ar σ (cB g.ar 1 k)) v:=by rw [k0];rfl
                clear k0
                generalize wtF g (nxP g.ar σ (cB g.ar 1 k)) v = a at *
                go_wp2_with fail
                have gb0:=bJ b0
                have gb1:=bJ b1
                have gb2:=bJ b2
                have gd0:=bJ d0
                have gd1:=bJ d1
                have gd2:=bJ d2
                have gp0:=bJ p0
                have gp1:=bJ p1
                have gp2:=bJ p2
                refine dN (by kernel_rfl) (by kernel_rfl) ?_
                repeat ((with_reducible refine wpQuiet_step (fun K hK=>?_));go_simp;first|(refine hK _ ?_;clear hK K)|(apply Exists.intro;refine ⟨fun w' hw'=>?_,hK _ ?_⟩;((have hx:=hbw.trans (Below.mono hw' hbw.size));(try go_simp);first|rfl|exact ⟨rfl,rfl⟩);clear hK K))
                refine wpQuiet_nil ?_
                intro w8 hww8
                have hbw8 : Below W.heap.size W w8:=hww8
                clear gb0 gb1 gb2 gd0 gd1 gd2 gp0 gp1 gp2
                replace b0:=aq b0 hbw8
                replace b1:=aq b1 hbw8
                replace b2:=aq b2 hbw8
                replace d0:=aq d0 hbw8
                replace d1:=aq d1 hbw8
                replace d2:=aq d2 hbw8
                replace p0:=aq p0 hbw8
                replace p1:=aq p1 hbw8
                replace p2:=aq p2 hbw8
                replace hbw : Below w.heap.size w w8:=hbw.trans (hbw8.mono hbw.size)
                clear hww8
                have hz8:=hbw8.size
                have hI8:=hI.below hbw8
                have hk8:=hkW.below hbw8
                have f0:=hI8.G.nofr (v * 3)
                have f1:=hI8.G.nofr (v * 3 + 1)
                have f2:=hI8.G.nofr (v * 3 + 2)
                have y0:=hk8.free 0
                have y1:=hk8.free 1
                have y2:=hk8.free 2
                cases s7 with
                | none =>
                  obtain ⟨rfl,rfl,hav⟩:=lR hoW
                  have pa0:=fun o=>aq p0 (aL w8 o)
                  have da0:=fun o=>aq d0 (aL w8 o)
                  have fa0:=fun o=>(hI8.below (aL w8 o)).G.nofr (v * 3)
                  have ya0:=fun o=>(hk8.alloc o).free 0
                  have pa1:=fun o=>aq p1 (aL w8 o)
                  have da1:=fun o=>aq d1 (aL w8 o)
                  have fa1:=fun o=>(hI8.below (aL w8 o)).G.nofr (v * 3 + 1)
                  have ya1:=fun o=>(hk8.alloc o).free 1
                  have pa2:=fun o=>aq p2 (aL w8 o)
                  have da2:=fun o=>aq d2 (aL w8 o)
                  have fa2:=fun o=>(hI8.below (aL w8 o)).G.nofr (v * 3 + 2)
                  have ya2:=fun o=>(hk8.alloc o).free 2
                  have hI9:=((hI.below hbw8).below (aL w8 (.cells #[] 2))).off hLg 1 (.slice (some ⟨w8.heap.size,0,none⟩) 0 0)
                  obtain ⟨cs',hI10⟩:=hI9.put hvl a hst (ad:=⟨w8.heap.size,0,none⟩) (m:=0) (c:=0) (by rw [hav];exact bj.top (bH.other (kg wr.heap.size w8 0 (by omega)) (fun e=>absurd (show w8.heap.size = gW by simpa [blk,Value.ownBlock] using e) (by omega)) _ _))
                  go_wp2_with fail
                  go_roundw
                  case rel=>first|exact ⟨v + 1,cs',by omega,by go_num,hI10⟩|((repeat apply Exists.intro);refine And.intro ?_ rfl;exact ⟨v + 1,cs',by omega,by go_num,hI10⟩)
                  case measure=>simp [intOf];omega
                | some ad =>
                  obtain ⟨gN,rfl,hgN⟩:=j5 hoW
                  obtain ⟨cs',hI10⟩:=(hI.below hbw8).put hvl a hst (bj.top (bj.below hoW hbw8))
                  go_wp2_with fail
                  go_roundw
                  case rel=>first|exact ⟨v + 1,cs',by omega,by go_num,hI10⟩|((repeat apply Exists.intro);refine And.intro ?_ rfl;exact ⟨v + 1,cs',by omega,by go_num,hI10⟩)
                  case measure=>simp [intOf];omega
              · obtain ⟨ad8,m8,c8,p1⟩:=(hI.N v hvl).2 (fun q=>k0 q.1)
                obtain ⟨s8,m8',c8',p1',o8⟩:=hI.G.ov v hvl
                rw [p1] at p1'
                simp only [Option.some.injEq,Value.slice.injEq] at p1'
                obtain ⟨rfl,rfl,rfl⟩:=p1'
                have hwF : wF g σ k v = wst g σ k v:=if_neg k0
                rw [hwG,hwF] at o8
                rw [hwF] at p0 p2
                replace p1:=cG hI.G.row p1
                have hA1 : jh W (.agg #[.int .i64 (wst g σ k v).hd,.slice (some ad8) m8 c8,.int .i64 (wst g σ k v).wy]) (wst g σ k v):=⟨_,_,_,rfl,(bj.is o8).ints⟩
                have hB1 : jh W (.agg #[.int .i64 (wtF g (nxP g.ar σ (cB g.ar 1 k)) v).hd,.slice s7 m7 c7,.int .i64 (wtF g (nxP g.ar σ (cB g.ar 1 k)) v).wy]) (wtF g (nxP g.ar σ (cB g.ar 1 k)) v):=⟨_,_,_,rfl,(bj.is hoW).ints⟩
                have HOK1:=Lib.hid (mF HS.out H0.out hvl (Nat.pos_of_ne_zero k0))
                have HOK2 : RowKit.Hid (WtOk g (wtF g (nxP g.ar σ (cB g.ar 1 k)) v)):=Lib.hid (kK HS.out H0.out k hvl)
                have hy:=@nG g σ k v k0
                have hn:=@qH g σ k v k0
                rw [show phi g σ k v = wtF g (nxP g.ar σ (cB g.ar 1 k)) v from rfl] at hy hn
                generalize wtF g (nxP g.ar σ (cB g.ar 1 k)) v = a at *
                by_cases hbt : d6 g (wst g σ k v) a
                · have hst:=hy hbt
                  have HBT:=Lib.hid (aA hbt)
                  clear hy hn hbt
                  go_wp2_with fail
                  have gb0:=bJ b0
                  have gb1:=bJ b1
                  have gb2:=bJ b2
                  have gd0:=bJ d0
                  have gd1:=bJ d1
                  have gd2:=bJ d2
                  have gp0:=bJ p0
                  have gp1:=bJ p1
                  have gp2:=bJ p2
                  refine dN (by kernel_rfl) (by kernel_rfl) ?_
                  repeat ((with_reducible refine wpQuiet_step (fun K hK=>?_));go_simp;first|(refine hK _ ?_;clear hK K)|(apply Exists.intro;refine ⟨fun w' hw'=>?_,hK _ ?_⟩;((have hx:=hbw.trans (Below.mono hw' hbw.size));(try go_simp);first|(go_at_call 42;exact jw (v:=.bool true) hw' (lQ _ _ _ _ HS.out.1 _ _ HOK1.out HOK2.out _ (hP0.below hx) (hA1.below hw') (hB1.below hw')) (fun e w'' h=>⟨by rw [h.1,HBT.out],h.2⟩))|rfl|exact ⟨rfl,rfl⟩);clear hK K))
                  refine wpQuiet_nil ?_
                  intro w8 hww8
                  have hbw8 : Below W.heap.size W w8:=hww8
                  clear gb0 gb1 gb2 gd0 gd1 gd2 gp0 gp1 gp2
                  replace b0:=aq b0 hbw8
                  replace b1:=aq b1 hbw8
                  replace b2:=aq b2 hbw8
                  replace d0:=aq d0 hbw8
                  replace d1:=aq d1 hbw8
                  replace d2:=aq d2 hbw8
                  replace p0:=aq p0 hbw8
                  replace p1:=aq p1 hbw8
                  replace p2:=aq p2 hbw8
                  replace hbw : Below w.heap.size w w8:=hbw.trans (hbw8.mono hbw.size)
                  clear hww8
                  have hz8:=hbw8.size
                  have hI8:=hI.below hbw8
                  have hk8:=hkW.below hbw8
                  have f0:=hI8.G.nofr (v * 3)
                  have f1:=hI8.G.nofr (v * 3 + 1)
                  have f2:=hI8.G.nofr (v * 3 + 2)
                  have y0:=hk8.free 0
                  have y1:=hk8.free 1
                  have y2:=hk8.free 2
                  cases s7 with
                  | none =>
                    obtain ⟨rfl,rfl,hav⟩:=lR hoW
                    have pa0:=fun o=>aq p0 (aL w8 o)
                    have da0:=fun o=>aq d0 (aL w8 o)
                    have fa0:=fun o=>(hI8.below (aL w8 o)).G.nofr (v * 3)
                    have ya0:=fun o=>(hk8.alloc o).free 0
                    have pa1:=fun o=>aq p1 (aL w8 o)
                    have da1:=fun o=>aq d1 (aL w8 o)
                    have fa1:=fun o=>(hI8.below (aL w8 o)).G.nofr (v * 3 + 1)
                    have ya1:=fun o=>(hk8.alloc o).free 1
                    have pa2:=fun o=>aq p2 (aL w8 o)
                    have da2:=fun o=>aq d2 (aL w8 o)
                    have fa2:=fun o=>(hI8.below (aL w8 o)).G.nofr (v * 3 + 2)
                    have ya2:=fun o=>(hk8.alloc o).free 2
                    have hI9:=((hI.below hbw8).below (aL w8 (.cells #[] 2))).off hLg 1 (.slice (some ⟨w8.heap.size,0,none⟩) 0 0)
                    obtain ⟨cs',hI10⟩:=hI9.put hvl a hst (ad:=⟨w8.heap.size,0,none⟩) (m:=0) (c:=0) (by rw [hav];exact bj.top (bH.other (kg wr.heap.size w8 0 (by omega)) (fun e=>absurd (show w8.heap.size = gW by simpa [blk,Value.ownBlock] using e) (by omega)) _ _))
                    go_wp2_with fail
                    go_roundw
                    case rel=>first|exact ⟨v + 1,cs',by omega,by go_num,hI10⟩|((repeat apply Exists.intro);refine And.intro ?_ rfl;exact ⟨v + 1,cs',by omega,by go_num,hI10⟩)
                    case measure=>simp [intOf];omega
                  | some ad =>
                    obtain ⟨gN,rfl,hgN⟩:=j5 hoW
                    obtain ⟨cs',hI10⟩:=(hI.below hbw8).put hvl a hst (bj.top (bj.below hoW hbw8))
                    go_wp2_with fail
                    go_roundw
                    case rel=>first|exact ⟨v + 1,cs',by omega,by go_num,hI10⟩|((repeat apply Exists.intro);refine And.intro ?_ rfl;exact ⟨v + 1,cs',by omega,by go_num,hI10⟩)
                    case measure=>simp [intOf];omega
                · have hst:=hn hbt
                  have HBT:=Lib.hid (ao hbt)
                  clear hy hn hbt
                  go_wp2_with fail
                  have gb0:=bJ b0
                  have gb1:=bJ b1
                  have gb2:=bJ b2
                  have gd0:=bJ d0
                  have gd1:=bJ d1
                  have gd2:=bJ d2
                  have gp0:=bJ p0
                  have gp1:=bJ p1
                  have gp2:=bJ p2
                  refine dN (by kernel_rfl) (by kernel_rfl) ?_
                  repeat ((with_reducible refine wpQuiet_step (fun K hK=>?_));go_simp;first|(refine hK _ ?_;clear hK K)|(apply Exists.intro;refine ⟨fun w' hw'=>?_,hK _ ?_⟩;((have hx:=hbw.trans (Below.mono hw' hbw.size));(try go_simp);first|(go_at_call 42;exact jw (v:=.bool false) hw' (lQ _ _ _ _ HS.out.1 _ _ HOK1.out HOK2.out _ (hP0.below hx) (hA1.below hw') (hB1.below hw')) (fun e w'' h=>⟨by rw [h.1,HBT.out],h.2⟩))|rfl|exact ⟨rfl,rfl⟩);clear hK K))
                  refine wpQuiet_nil ?_
                  intro w8 hww8
                  have hbw8 : Below W.heap.size W w8:=hww8
                  clear gb0 gb1 gb2 gd0 gd1 gd2 gp0 gp1 gp2
                  replace b0:=aq b0 hbw8
                  replace b1:=aq b1 hbw8
                  replace b2:=aq b2 hbw8
                  replace d0:=aq d0 hbw8
                  replace d1:=aq d1 hbw8
                  replace d2:=aq d2 hbw8
                  replace p0:=aq p0 hbw8
                  replace p1:=aq p1 hbw8
                  replace p2:=aq p2 hbw8
                  replace hbw : Below w.heap.size w w8:=hbw.trans (hbw8.mono hbw.size)
                  clear hww8
                  go_wp2_with fail
                  go_roundw
                  case rel=>exact ⟨v + 1,cs,by omega,by go_num,((hI.below hbw8).skip k0 hst).top⟩
                  case measure=>simp [intOf];omega
           · obtain rfl : v = g.prio.length:=by omega
             go_wp2_with fail
             go_roundw
             case rel =>
              refine ⟨k + 1,cs,by omega,by go_num,hInv.G.congr fun u hu=>?_,fun u hu=>⟨fun q=>absurd q (Nat.succ_ne_zero k),fun _=>(hInv.N u hu).2 fun q=>by omega⟩,hInv.B,hInv.b,hInv.z⟩
              exact (if_pos hu).trans (if_neg (Nat.succ_ne_zero k)).symm
             case measure=>simp [intOf];omega
  · obtain rfl : k = cF g:=by omega
    have hmp:=gC HS.out
    go_wp2_with fail
    go_ret
    exact ⟨w.heap.size + 1,g.prio.length,cs,rfl,(hG.mono (by omega) (Nat.le_refl _)).congr fun u hu=>if_neg (by omega),hb⟩
end Go.Proofs.Ytlodllmpndflcaa
