/-
  CutEdge of the reference in the old words: what comes back reads as the game without the edge.
-/
import Derived.Test.YtiadchinhofieaaZcXH
namespace Go.Proofs.Ytiadchinhofieaa
set_option linter.unusedVariables false
set_option linter.unusedSimpArgs false
open Go.RowKit
attribute [local go_sem ↓] Go.wp_at_zero Go.wp_at_succ
theorem iz (lo hi : Nat) (w : World) : cI lo hi w (.agg #[.slice none 0 0,.slice none 0 0,.slice none 0 0]) ⟨⟨[],[]⟩,[]⟩:=by
 refine ⟨_,_,_,[],rfl,.inl ⟨rfl,rfl⟩,⟨rfl,.inl ⟨rfl,rfl⟩,fun k hk=>absurd hk (Nat.not_lt_zero _),List.nodup_nil⟩,.inl ⟨rfl,rfl⟩,?_⟩
 exact List.nodup_nil
theorem gM {P : Program} {f : FuncId} {args : List AV} {x : AV} {w : World} {vs : List Value} (hF : aq P f args [] fun _=>x) (hv : AVs φ00 h00 w args vs) : Calls P f vs.toArray w fun e w'=>∃ v,e = .returned v ∧ (∃ φ hp,AVC φ hp w' x v) ∧ Below w.heap.size w w':=by
 refine (hF.2 φ00 h00 w vs (fun _ _ h=>by cases h) (wk w) hv.at.1 hv.at.2).mono fun e w' ⟨v,he,ho⟩=>⟨v,he,?_⟩
 obtain ⟨φ',H,_,ha⟩:=ho [] rfl List.nodup_nil (fun _ h=>by cases h)
 exact ⟨⟨_,_,ha⟩,H.fr⟩
theorem oA {φ : Nat → Loc} {hp : Hp} {w : World} {l : List AV} {v : Value} (h : AVC φ hp w (.tup l) v) : ∃ vs : List Value,v = .tuple vs.toArray ∧ AVs φ hp w l vs:=by
 cases h with
 | tup hl h => exact ⟨_, rfl, .of hl h⟩
theorem mF {φ : Nat → Loc} {hp : Hp} {w : World} {v : Value} {b : Bool} (h : AVC φ hp w (.tup [.agg [.c .nul,.c .nul,.c .nul],.c (.bool b)]) v) : v = .tuple #[.agg #[.slice none 0 0,.slice none 0 0,.slice none 0 0],.bool b]:=by
 obtain ⟨vs,rfl,h'⟩:=oA h
 clear h
 match vs,h' with
 | [x, y], .cons h1 (.cons h2 .nil) =>
   obtain rfl:=dZ h2
   obtain ⟨us,rfl,h'⟩:=ip h1
   clear h1
   match us,h' with
   | [a, b, c], .cons k1 (.cons k2 (.cons k3 .nil)) =>
     obtain rfl:=dG k1
     obtain rfl:=dG k2
     obtain rfl:=dG k3
     rfl
theorem mG (x : Value) (g : Pa) (w : World) (hP : IsP w x g) : Calls Try.prog 61 #[x] w fun e w'=>e = .returned (.bool (tf (PaOk g))) ∧ Below w.heap.size w w' :=
 ls (vs:=[x]) (jH g) (.cons (mo hP) .nil)
theorem s8 (x : Value) (a : Ar) (v : Int) (w : World) (hA : IsA w x a) : Calls Try.prog 62 #[x,.int .i64 v] w fun e w'=>e = .returned (.bool (tf (iM a.own.length v))) ∧ Below w.heap.size w w' :=
 ls (vs:=[x,.int .i64 v]) (oh a v) (.cons (xp hA) (.cons (lr _ _) .nil))
theorem pD (x : Value) (g : Pa) (w : World) (hP : IsP w x g) (v u : Int) (h : ¬ fl g v u) : Calls Try.prog 20 #[x,.int .i64 v,.int .i64 u] w (lW w (ceN g v u) (tf (fl g v u))):=by
 rw [nL h,ax h]
 refine (gM (vs:=[x,.int .i64 v,.int .i64 u]) (nM g v u h) (.cons (mo hP) (.cons (lr _ _) (.cons (lr _ _) .nil)))).mono ?_
 rintro e w' ⟨v,rfl,⟨φ,hp,hv⟩,hb⟩
 obtain rfl:=mF hv
 exact ⟨_,_,_,_,_,_,_,_,_,rfl,iz _ _ _,hb⟩
set_option maxRecDepth 100000 in
set_option maxHeartbeats 1000000 in
theorem pE (x : Value) (g : Pa) (w : World) (hP : IsP w x g) (hg : PaOk g) (v : Nat) (hv : v < g.prio.length) (u : Int) (hu : u ∈ gr g.ar.nxt v) (h2l : 2 ≤ (gr g.ar.nxt v).length) : Calls Try.prog 20 #[x,.int .i64 v,.int .i64 u] w (lW w (cP g v u) true):=by
 have hP0:=hP
 obtain ⟨_,_,_,rfl,⟨s1,n1,c1,rfl,h1⟩,⟨s2,n2,c2,rfl,h2⟩,⟨s3,n3,c3,rfl,h3⟩⟩:=hP
 have hA : IsA w (.agg #[.slice s1 n1 c1,.slice s2 n2 c2]) g.ar:=⟨_,_,rfl,h1.is,h2.is⟩
 have k1:=Lib.hid (aH hg)
 have k2:=Lib.hid (aH (show iM g.ar.own.length (v : Int) from ⟨by omega,by have:=hg.len;omega⟩))
 rcases gn (gr g.ar.nxt v) u with ⟨_,h⟩|⟨k,hk,ek,_,ei⟩
 · exact absurd hu h
 have hfe:=Lib.hid (g8 (hg.ar.vert v (by have:=hg.len;omega)).2.2.2.2 hk ek)
 have HG:=Lib.hid hg
 have EI:=Lib.hid ei
 have H2:=Lib.hid h2l
 clear hg ei h2l
 go_enter Try.func20,Try.ntmps20
 go_wp2_with fail
 generalize hqw1 : (w.alloc (.cells #[.slice s1 n1 c1,.slice s2 n2 c2,.slice s3 n3 c3] 32)).alloc (.cells #[.slice none 0 0,.slice none 0 0,.slice none 0 0] 32) = w1
 have hbw : Below w.heap.size w w1:=by rw [← hqw1];exact (by repeat' (first|(with_reducible exact Below.refl _ _)|(with_reducible apply Below.alloc)|(with_reducible apply Below.drew)|(with_reducible apply aj)|omega|(simp only [World.size_alloc,World.size_setCell,World.size_drew];omega)))
 have hew1:=Lib.hid (show w1.heap.size = w.heap.size + 1 + 1 by rw [← hqw1];simp)
 have hsw : w.heap.size + 2 ≤ w1.heap.size:=by rw [← hqw1];simp only [World.size_alloc];omega
 have hswa : w.heap.size < w1.heap.size:=by omega
 have hswb : w.heap.size + 1 < w1.heap.size:=by omega
 have HQw1_0 : Blk w1 (w.heap.size) [.slice s1 n1 c1,.slice s2 n2 c2,.slice s3 n3 c3] 32:=by rw [← hqw1];have hnew:=bM w [.slice s1 n1 c1,.slice s2 n2 c2,.slice s3 n3 c3] 32;(try simp only [World.size_alloc] at hnew);exact (Blk.alloc hnew _)
 have b0_0 : w1.cell? ⟨w.heap.size,0,none⟩ = some (.slice s1 n1 c1):=HQw1_0.cell 0 rfl
 have b0_1 : w1.cell? ⟨w.heap.size,1,none⟩ = some (.slice s2 n2 c2):=HQw1_0.cell 1 rfl
 have b0_2 : w1.cell? ⟨w.heap.size,2,none⟩ = some (.slice s3 n3 c3):=HQw1_0.cell 2 rfl
 clear HQw1_0
 have HQw1_1 : Blk w1 (w.heap.size + 1) [.slice none 0 0,.slice none 0 0,.slice none 0 0] 32:=by rw [← hqw1];have hnew:=bM (w.alloc (.cells #[.slice s1 n1 c1,.slice s2 n2 c2,.slice s3 n3 c3] 32)) [.slice none 0 0,.slice none 0 0,.slice none 0 0] 32;(try simp only [World.size_alloc] at hnew);exact hnew
 have b1_0 : w1.cell? ⟨w.heap.size + 1,0,none⟩ = some (.slice none 0 0):=HQw1_1.cell 0 rfl
 have b1_1 : w1.cell? ⟨w.heap.size + 1,1,none⟩ = some (.slice none 0 0):=HQw1_1.cell 1 rfl
 have b1_2 : w1.cell? ⟨w.heap.size + 1,2,none⟩ = some (.slice none 0 0):=HQw1_1.cell 2 rfl
 have HRw1:=Lib.hid HQw1_1
 clear HQw1_1
 clear hqw1
 have hR:=HRw1.out
 have e0:=hew1.out
 go_wp2_with (first
  | (go_at_call 61; refine (mG _ _ _ (hP0.below hbw)).mono ?_; rw [k1.out]; rintro e w2 ⟨rfl, hbw2⟩; replace b0_0 := ah b0_0 hbw2; replace b0_1 := ah b0_1 hbw2; replace b0_2 := ah b0_2 hbw2; replace hR := hR.below hbw2; replace hbw : Below w.heap.size w w2 := hbw.trans (hbw2.mono hbw.size); have hz2 := hbw2.size)
  | (go_at_call 62; refine (s8 _ _ _ _ (hA.below hbw)).mono ?_; rw [k2.out]; rintro e w3 ⟨rfl, hbw3⟩; replace b0_0 := ah b0_0 hbw3; replace b0_1 := ah b0_1 hbw3; replace b0_2 := ah b0_2 hbw3; replace hR := hR.below hbw3; replace hbw : Below w.heap.size w w3 := hbw.trans (hbw3.mono hbw.size); have hz3 := hbw3.size)
  | (go_at_call 67; refine (fL _ _ _ (hP0.below hbw) HG.out v hv u k hk EI.out H2.out).mono ?_; rintro e w4 ⟨t1, m1, d1, t2, m2, d2, t3, m3, d3, rfl, ho4, hbw4⟩; replace b0_0 := ah b0_0 hbw4; replace b0_1 := ah b0_1 hbw4; replace b0_2 := ah b0_2 hbw4; replace hR := hR.below hbw4; replace hbw : Below w.heap.size w w4 := hbw.trans (hbw4.mono hbw.size); have hz4 := hbw4.size; have r0 := hR.cell 0 rfl; have r1 := hR.cell 1 rfl; have r2 := hR.cell 2 rfl; have y0 := hR.free 0; have y1 := hR.free 1; have y2 := hR.free 2))
 have hF:=ho4
 rw [hfe.out] at hF
 clear ho4
 refine bodyPost_ret (v:=.tuple #[.agg #[.slice t1 m1 d1,.slice t2 m2 d2,.slice t3 m3 d3],.bool true]) (by simp [results,Try.results20,go_sem,r0,r1,r2,y0,y1,y2]) rfl ?_
 refine ⟨_,_,_,_,_,_,_,_,_,rfl,?_,?_⟩
 · clear hbw hbw2 hbw3 hbw4
   exact hF.final (by repeat' (first|(with_reducible exact bd.refl _ _ _)|(with_reducible apply bd.set)|(with_reducible apply bd.alloc)|(with_reducible apply bd.drew)|(with_reducible apply bd.drewN)|(with_reducible refine bd.below ?_ (by assumption))|omega|(simp only [World.size_alloc,World.size_setCell,World.size_drew];omega))) (by first|omega|(simp only [World.size_alloc,World.size_setCell,World.size_drew];omega))
 · exact (by repeat' (first|(with_reducible exact Below.refl _ _)|(with_reducible assumption)|(with_reducible apply ap)|(with_reducible apply Below.alloc)|(with_reducible apply Below.drew)|(with_reducible apply aj)|(with_reducible refine Below.trans ?_ (Below.mono (by assumption) ?_))|omega|(simp only [World.size_alloc,World.size_setCell,World.size_drew];omega)))
theorem kI (x : Value) (g : Pa) (v u : Int) (w : World) (hP : IsP w x g) : Calls Try.prog 20 #[x,.int .i64 v,.int .i64 u] w (lW w (ceN g v u) (tf (fl g v u))):=by
 by_cases h : fl g v u
 · rw [lH h,aH h]
   obtain ⟨n,rfl⟩:=Int.eq_ofNat_of_zero_le h.2.1.1
   have hl:=h.1.len
   have hn : n < g.prio.length:=by have:=h.2.1.2;omega
   have hr:=(h.1.ar.vert n (by omega)).2.2.1
   have h3:=h.2.2
   rw [Int.toNat_natCast] at h3 ⊢
   exact pE x g w hP h.1 n hn u h3.1 (by omega)
 · exact pD x g w hP v u h
end Go.Proofs.Ytiadchinhofieaa
namespace Go.Proofs.Ytiadchinhofieaa
set_option linter.unusedVariables false
set_option linter.unusedSimpArgs false
open Go.RowKit
def rx (w : World) (g : Pa) (b : Bool) (e : Ending) (w' : World) : Prop:=∃ s1 n1 c1 s2 n2 c2 s3 n3 c3,e = .returned (.tuple #[.agg #[.slice s1 n1 c1,.slice s2 n2 c2,.slice s3 n3 c3],.bool b]) ∧ IsP w' (.agg #[.slice s1 n1 c1,.slice s2 n2 c2,.slice s3 n3 c3]) g ∧ Below w.heap.size w w'
theorem s9 {w w' : World} {g : Pa} {b : Bool} {φ : Nat → Loc} {hp : Hp} {v : Value} (h : AVC φ hp w' (.tup [paA g,.c (.bool b)]) v) (hb : Below w.heap.size w w') : rx w g b (.returned v) w':=by
 obtain ⟨vs,rfl,h'⟩:=oA h
 clear h
 match vs,h' with
 | [x, y], .cons h1 (.cons h2 .nil) =>
   obtain rfl:=dZ h2
   have hP:=nz h1
   obtain ⟨_,_,_,rfl,⟨s1,n1,c1,rfl,k1⟩,⟨s2,n2,c2,rfl,k2⟩,⟨s3,n3,c3,rfl,k3⟩⟩:=id hP
   exact ⟨_,_,_,_,_,_,_,_,_,rfl,hP,hb⟩
theorem pF (x : Value) (g : Pa) (v u : Int) (w : World) (hP : IsP w x g) : Calls Try.prog 19 #[x,.int .i64 v,.int .i64 u] w (rx w (ceN g v u) (tf (fl g v u))):=by
 by_cases h : fl g v u
 · rw [lH h,aH h]
   obtain ⟨n,rfl⟩:=Int.eq_ofNat_of_zero_le h.2.1.1
   have hl:=h.1.len
   have hn : n < g.prio.length:=by have:=h.2.1.2;omega
   have hr:=(h.1.ar.vert n (by omega)).2.2.1
   have h3:=h.2.2
   rw [Int.toNat_natCast] at h3 ⊢
   refine (gM (vs:=[x,.int .i64 n,.int .i64 u]) (jT g h.1 n hn u h3.1 (by omega)) (.cons (mo hP) (.cons (lr _ _) (.cons (lr _ _) .nil)))).mono ?_
   rintro e w' ⟨v,rfl,⟨φ,hp,hv⟩,hb⟩
   exact s9 hv hb
 · rw [nL h,ax h]
   refine (gM (vs:=[x,.int .i64 v,.int .i64 u]) (jU g v u h) (.cons (mo hP) (.cons (lr _ _) (.cons (lr _ _) .nil)))).mono ?_
   rintro e w' ⟨v,rfl,⟨φ,hp,hv⟩,hb⟩
   obtain rfl:=mF hv
   exact ⟨_,_,_,_,_,_,_,_,_,rfl,(iz 0 w'.heap.size w').is,hb⟩
theorem mH {xss : List (List Int)} {b : Nat} : ∀ n,(∀ k,k < n → (gr xss k).length ≤ b) → dj xss n ≤ n * b
 | 0, _ => Nat.zero_le _
 | n + 1, h => by
   have h1:=mH n fun k hk=>h k (by omega)
   have h2:=h n (by omega)
   rw [Nat.add_mul,Nat.one_mul]
   show dj xss n + (gr xss n).length ≤ _
   omega
theorem tq {g : Pa} (hg : PaOk g) : szP g ≤ 1048576:=by
 have hl:=hg.len
 have hln:=hg.ar.len
 have hle:=hg.ar.le
 have h1:=mH (xss:=g.ar.nxt) (b:=16) g.ar.nxt.length fun k hk=>(hg.ar.vert k (by omega)).2.2.2.1
 unfold szP szA gO
 omega
theorem ry (g : Pa) (v u : Int) : szP (ceN g v u) ≤ 1048576:=by
 by_cases h : fl g v u
 · rw [lH h]
   have hl:=h.1.len
   have h2:=h.2.1
   have hr:=(h.1.ar.vert v.toNat (by have:=h2.1;have:=h2.2;omega)).2.2.1
   exact tq (gf h.1 (by have:=h2.1;have:=h2.2;omega) (by have:=h.2.2.2;omega))
 · rw [nL h];decide
end Go.Proofs.Ytiadchinhofieaa
