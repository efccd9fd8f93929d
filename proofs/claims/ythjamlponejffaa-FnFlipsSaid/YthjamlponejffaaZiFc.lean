/-
  Calls, the types, numbered names, lists by functions, and the bridges to the other way of saying contracts.
-/
import Derived.Test.YthjamlponejffaaZiFa
import Derived.Test.YthjamlponejffaaZiCa
namespace Go.Proofs.Ythjamlponejffaa
set_option linter.unusedVariables false
set_option linter.unusedSimpArgs false
open Go.RowKit
inductive ArgV (hp : Hp) : AV → AV → Prop where
 | any (a : AV) : ArgV hp a .any
 | rd {c c' : C} (h : en c c') : ArgV hp (.c c) (.c c')
 | k (v : Value) : ArgV hp (.k v) (.k v)
 | el (wd : Nat) (f : Nat → C) : ArgV hp (.el wd f) (.el wd f)
 | fz {x : Nat} {T : TypeId} {nn : Fl} {c c' : C} (h : hp x = some (.arr T nn c)) (hr : en (if nn.nn then .nn c else c) c') : ArgV hp (.sl x) (.c c')
 | box {x : Nat} {l : List AV} {f : Nat → C} (h : hp x = some (.box l)) (hc : ∀ i, i < l.length → ∃ c, l.getD i .any = .c c ∧ en c (f i)) : ArgV hp (.ad x 0) (.el l.length f)
 | agg {l l' : List AV} (hl : l'.length = l.length) (h : ∀ i, i < l.length → ArgV hp (l.getD i .any) (l'.getD i .any)) : ArgV hp (.agg l) (.agg l')
 | fn {f : Fn} {l l' : List AV} (hl : l'.length = l.length) (h : ∀ i, i < l.length → ArgV hp (l.getD i .any) (l'.getD i .any)) : ArgV hp (.fn f l) (.fn f l')
noncomputable def ck (hp : Hp) (S : List Nat) : Hp:=fun ν=>if ν ∈ S then none else match hp ν with
 | some e => if e.kind = 2 then none else some .ext
 | none => none
section
variable {P : Program}
theorem kQ (hp : Hp) (S : List Nat) : Ext (ck hp S):=by
 intro ν e h
 unfold ck at h
 split at h
 · cases h
 · split at h
   · split at h
     · cases h
     · injection h with h;subst h;rfl
   · cases h
theorem cW {hp : Hp} {S : List Nat} {ν : Nat} {e : Ent} (h : ck hp S ν = some e) : e = .ext ∧ ¬ ν ∈ S ∧ bW hp ν:=by
 unfold ck at h
 split at h
 · cases h
 · rename_i hS
   split at h
   · rename_i e0 he0
     split at h
     · cases h
     · rename_i hk;injection h with h;exact ⟨h.symm,hS,e0,he0,hk⟩
   · cases h
theorem mQ {hp : Hp} {S : List Nat} {ν : Nat} (h : ¬ ν ∈ S) (hl : bW hp ν) : ck hp S ν = some .ext:=by
 obtain ⟨e,h1,h2⟩:=hl
 unfold ck
 rw [if_neg h,h1]
 simp [h2]
theorem qv {φ : Nat → Loc} {hp : Hp} {lo : Nat} {w0 w : World} (H : HC φ hp lo w0 w) (S : List Nat) : HC φ (ck hp S) w.heap.size w w:=by
 have lv : ∀ ν,bW (ck hp S) ν → bW hp ν:=fun ν ⟨e,h1,_⟩=>(cW h1).2.2
 obtain ⟨b,hb⟩:=H.fin
 refine ⟨Below.refl _ _,Nat.le_refl _,⟨b,fun ν h=>?_⟩,fun ν e he=>?_,fun ν ν' b hne h1 h2 h3=>H.sep ν ν' b hne (lv ν h1) (lv ν' h2) h3,fun ν b h1 h2=>?_⟩
 · unfold ck;rw [hb ν h];split <;> rfl
 · obtain ⟨rfl,h1,h2⟩:=cW he
   obtain ⟨e,h3,h4⟩:=h2
   exact fun b hb=>H.lt ⟨e,h3,h4⟩ hb
 · obtain ⟨e,k1,k2⟩:=h1
   obtain ⟨rfl,_⟩:=cW k1
   simp [Ent.kind] at k2
theorem iE {φ : Nat → Loc} {hp hp1 hp' : Hp} {lo : Nat} {w0 w : World} {S : List Nat} (H : HC φ hp1 lo w0 w) (own : ∀ b,Own φ hp' b → ∃ y,bW hp1 y ∧ (φ y).blk = some b ∧ ¬ y ∈ S) {a a' : AV} {v : Value} (h : ArgV hp a a') (hs : ∀ ν,ν ∈ a.names → hp1 ν = hp ν ∧ ν ∈ S) (hv : AVC φ hp1 w a v) : AVC φ hp' w a' v:=by
 have own' : ∀ b,Own φ hp' b → Own φ hp1 b:=fun b h=>let ⟨y,k1,k2,_⟩:=own b h;⟨y,k1,k2⟩
 have mono : ∀ {c v},Rd (Own φ hp1) w c v → Rd (Own φ hp') w c v:=fun h=>h.mono (fun b _ hb=>⟨rfl,fun h=>hb (own' b h)⟩) (Nat.le_refl _)
 induction h generalizing v with
 | any => exact .any v
 | rd h => cases hv with | c hr => exact .c (h _ _ _ (mono hr))
 | k => cases hv; exact .k _
 | el wd f => cases hv with | el hc hr hO hb => exact .el hc (fun j hj => mono (hr j hj)) (fun h => hO (own' _ h)) hb
 | @fz x T nn c c' h hr =>
   obtain ⟨e1,e2⟩:=hs x (by simp [AV.names])
   rw [← e1] at h
   have e:=fl hv h
   subst e
   refine .c (hr _ _ _ (fx (H.ent x _ h) (fun b hb hh=>⟨rfl,fun ho=>?_⟩) (Nat.le_refl _)))
   obtain ⟨y,y1,y2,y3⟩:=own b ho
   rcases hh with hh|hh
   · exact hh ⟨y,y1,y2⟩
   · exact H.sep x y b (fun e=>y3 (by subst e;exact e2)) ⟨_,h,by simp [Ent.kind]⟩ y1 hh y2
 | @box x l f h hc =>
   obtain ⟨e1,e2⟩:=hs x (by simp [AV.names])
   rw [← e1] at h
   obtain ⟨g,n,cp,wd,hl,rfl⟩:=fV hv h
   obtain ⟨cur,T',h1,h2,h3⟩:=eE H h hl
   refine .el (vs:=fun i=>cur.getD i undef) (fun j hj=>?_) (fun j hj=>?_) (fun ho=>?_) (Array.getElem?_eq_some_iff.1 h1).1
   · refine eU h1 ?_
     rw [Nat.zero_add,Array.getD_eq_getD_getElem?]
     simp [show j < cur.size by omega]
   · obtain ⟨c,q1,q2⟩:=hc j hj
     have:=h3 j hj
     rw [q1] at this
     exact q2 _ _ _ (mono (db this))
   · obtain ⟨y,y1,y2,y3⟩:=own g ho
     exact H.sep x y g (fun e=>y3 (by subst e;exact e2)) ⟨_,h,by simp [Ent.kind]⟩ y1 (by rw [hl];rfl) y2
 | agg hl _ ih =>
   obtain ⟨vs,rfl,h1,h2⟩:=eT hv
   refine .agg (by omega) fun i hi=>ih i (by omega) (fun ν hν=>hs ν ?_) (h2 i (by omega))
   simp only [AV.names]
   have hi':=Nat.lt_of_lt_of_le hi (Nat.le_of_eq hl)
   rw [aX hi'] at hν
   exact cO (List.getElem_mem hi') hν
 | fn hl _ ih =>
   cases hv with
   | fn h1 h2 =>
     refine .fn (by omega) fun i hi=>ih i (by omega) (fun ν hν=>hs ν ?_) (h2 i (by omega))
     simp only [AV.names]
     have hi':=Nat.lt_of_lt_of_le hi (Nat.le_of_eq hl)
     rw [aX hi'] at hν
     exact cO (List.getElem_mem hi') hν
theorem nI {φ : Nat → Loc} {hp hp1 : Hp} {lo : Nat} {w0 w : World} {S : List Nat} (H : HC φ hp1 lo w0 w) {a a' : AV} {v : Value} (h : ArgV hp a a') (hs : ∀ ν,ν ∈ a.names → hp1 ν = hp ν ∧ ν ∈ S) (hv : AVC φ hp1 w a v) : AVC φ (ck hp1 S) w a' v :=
 iE H (fun b ⟨y,⟨e,k1,_⟩,h2⟩=>let ⟨_,q1,q2⟩:=cW k1;⟨y,q2,h2,q1⟩) h hs hv
def g7 (hp : Hp) (avs args : List AV) : Prop:=args.length = avs.length ∧ ∀ i,i < avs.length → ArgV hp (avs.getD i .any) (args.getD i .any)
def C.flat : C → Bool
 | .I _ | .B _ | .Y _ => true
 | _ => false
def C.scal : C → Bool
 | .int _ _ | .bool _ | .nul => true
 | _ => false
def Ent.flat : Ent → Bool
 | .arr _ _ c => c.flat
 | _ => false
mutual
def AV.flat : AV → Bool
 | .any | .sl _ => true
 | .c c => c.scal
 | .agg l => jw l
 | .tup l => jw l
 | _ => false
def jw : List AV → Bool
 | [] => true
 | a :: l => a.flat && jw l
end
theorem eH {l : List AV} (h : jw l = true) {i : Nat} (hi : i < l.length) : (l.getD i .any).flat = true:=by
 induction l generalizing i with
 | nil => simp at hi
 | cons a l ih =>
   simp only [jw,Bool.and_eq_true] at h
   cases i with
   | zero => exact h.1
   | succ i => simpa using ih h.2 (by simpa using hi)
theorem gm {O O' : Nat → Prop} {w w' : World} {c : C} {v : Value} (hc : c.scal = true) (h : Rd O w c v) : Rd O' w' c v:=by
 cases h with
 | int => exact .int _ _
 | bool => exact .bool _
 | nul => exact .nul
 | sl hv => cases c <;> first | (simp [C.scal] at hc; done) | (simp [C.view] at hv)
theorem mR {c : C} {V : View} (hf : c.flat = true) (hv : c.view = some V) (i j : Nat) : (V.at' i j).scal = true:=by
 cases c <;> first|(simp [C.flat] at hf;done)|(simp only [C.view,Option.some.injEq] at hv;subst hv;rfl)
theorem gH {f : FuncId} {args avs : List AV} {nw : List Ent} {val : List Nat → AV} (hF : ap P f args nw val) {hp : Hp} (hA : g7 hp avs args) (fz : List Nat) (hfz : ∀ x,x ∈ fz → ∃ e,hp x = some e ∧ e.kind = 1 ∧ x ∈ au avs)
  (hk : ∀ e,e ∈ nw → e.kind = 1) (hcase : (∀ x,x ∈ au avs → x ∈ fz) ∨ (nw.all Ent.flat = true ∧ ∀ ν,(val ν).flat = true)) : b9 P f avs hp ⟨True,nw,bM fz,val⟩:=by
 obtain ⟨hcall,hspec⟩:=hF
 refine ⟨hcall,fun φ hp1 lo w0 w vs hsame H hl hv=>?_⟩
 have hX:=kQ hp1 (au avs)
 have H1:=qv H (au avs)
 have hargs : ∀ i,i < args.length → AVC φ (ck hp1 (au avs)) w (args.getD i .any) (vs.getD i undef):=by
  intro i hi
  have hi' : i < avs.length:=by rw [← hA.1];exact hi
  refine nI H (hA.2 i hi') (fun ν hν=>?_) (hv i hi')
  have : ν ∈ au avs:=by rw [aX hi'] at hν;exact cO (List.getElem_mem hi') hν
  exact ⟨hsame ν this,this⟩
 refine (hspec φ _ w vs hX H1 (by rw [hl,hA.1]) hargs).mono fun e w' ⟨v,he,hO⟩=>⟨v,he,fun ν n1 n2 n3=>?_⟩
 have n1 : ν.length = nw.length:=n1
 have n3' : ∀ x,x ∈ ν → ck hp1 (au avs) x = none:=fun x hx=>by
  unfold ck;rw [n3 x hx];split <;> rfl
 obtain ⟨φ1,K,EV,hr⟩:=hO ν n1 n2 n3'
 change HC φ1 (bt (ck hp1 (au avs)) ν nw) w.heap.size w w' at K
 change Evo φ _ w φ1 (bt (ck hp1 (au avs)) ν nw) w' at EV
 change AVC φ1 (bt (ck hp1 (au avs)) ν nw) w' (val ν) v at hr
 have hfz1 : ∀ x,x ∈ fz → ∃ e,hp1 x = some e ∧ e.kind = 1:=fun x hx=>by
  obtain ⟨e,h1,h2,h3⟩:=hfz x hx
  exact ⟨e,by rw [hsame x h3];exact h1,h2⟩
 have hνfz : ∀ x,x ∈ ν → ¬ x ∈ fz:=fun x hx h=>by obtain ⟨e,h1,_⟩:=hfz1 x h;rw [n3 x hx] at h1;cases h1
 let φ' : Nat → Loc:=fun y=>if y ∈ ν then φ1 y else φ y
 let hp' : Hp:=bt (aI hp1 (bM fz)) ν nw
 show ∃ φ'',HC φ'' hp' lo w0 w' ∧ Evo φ hp1 w φ'' hp' w' ∧ AVC φ'' hp' w' (val ν) v
 have p1 : ∀ y,y ∈ ν → φ' y = φ1 y:=fun y h=>if_pos h
 have p2 : ∀ y,¬ y ∈ ν → φ' y = φ y:=fun y h=>if_neg h
 have q1 : ∀ y,y ∈ ν → hp' y = bt (ck hp1 (au avs)) ν nw y:=fun y h=>by
  obtain ⟨k1,k2⟩:=cP h
  show bt _ ν nw y = _
  rw [← k2,dh n1 n2 k1,dh n1 n2 k1]
 have q2 : ∀ y,¬ y ∈ ν → hp' y = if y ∈ fz then some .dead else hp1 y:=fun y h=>by
  show bt _ ν nw y = _
  rw [cV h,cD]
 have lv : ∀ y,¬ y ∈ ν → (bW hp' y ↔ ¬ y ∈ fz ∧ bW hp1 y):=by
  intro y h
  unfold bW
  rw [q2 y h]
  by_cases hz : y ∈ fz
  · rw [if_pos hz]
    simp only [Option.some.injEq,hz,not_true,false_and,iff_false]
    rintro ⟨e,rfl,hk⟩
    exact hk rfl
  · rw [if_neg hz];simp [hz]
 have lvn : ∀ y,y ∈ ν → (bW hp' y ↔ bW (bt (ck hp1 (au avs)) ν nw) y):=fun y h=>by unfold bW;rw [q1 y h]
 have kindn : ∀ y e,y ∈ ν → bt (ck hp1 (au avs)) ν nw y = some e → e.kind = 1:=fun y e hy h=>by
  obtain ⟨m1,m2⟩:=cP hy
  rw [← m2,dh n1 n2 m1] at h
  injection h with h
  have hi : ν.idxOf y < nw.length:=by omega
  rw [aX hi] at h
  subst h
  exact hk _ (List.getElem_mem hi)
 have newblk : ∀ y,y ∈ ν → bW hp' y → ∀ b,(φ1 y).blk = some b → w.heap.size ≤ b:=by
  intro y hy hL b hb
  obtain ⟨e,k1,k2⟩:=(lvn y hy).1 hL
  exact K.lo y b ⟨e,k1,by have:=kindn y e hy k1;omega⟩ hb
 have hcases : (∀ b,Own φ' hp' b → Own φ1 (bt (ck hp1 (au avs)) ν nw) b) ∨ (nw.all Ent.flat = true ∧ (val ν).flat = true):=by
  rcases hcase with hc|⟨h1,h2⟩
  · refine .inl ?_
    rintro b ⟨y,y1,y2⟩
    by_cases hy : y ∈ ν
    · rw [p1 y hy] at y2
      exact ⟨y,(lvn y hy).1 y1,y2⟩
    · rw [p2 y hy] at y2
      obtain ⟨z1,z2⟩:=(lv y hy).1 y1
      have hn : ¬ y ∈ au avs:=fun h=>z1 (hc y h)
      have hx:=mQ hn z2
      obtain ⟨e',m1,⟨m2,m3⟩|⟨m2,m3⟩⟩:=EV.nm y _ hx
      · exact absurd rfl m3
      · exact ⟨y,⟨e',m1,by rw [m2];simp [Ent.kind]⟩,by rw [m3];exact y2⟩
  · exact .inr ⟨h1,h2 ν⟩
 have E : Evo φ hp1 w φ' hp' w':=by
  refine ⟨fun y e hy=>?_,fun b hb ho=>⟨K.fr.block b hb,fun ⟨y,y1,y2⟩=>?_⟩,K.fr.size,fun b hb _=>K.fr.block b hb⟩
  · have hyν : ¬ y ∈ ν:=fun h=>by rw [n3 y h] at hy;cases hy
    rw [q2 y hyν,p2 y hyν]
    by_cases hz : y ∈ fz
    · rw [if_pos hz]
      obtain ⟨e0,k1,k2⟩:=hfz1 y hz
      rw [hy] at k1;injection k1 with k1;subst k1
      exact ⟨.dead,rfl,.inl ⟨rfl,by omega⟩⟩
    · rw [if_neg hz];exact ⟨e,hy,.inr ⟨rfl,rfl⟩⟩
  · by_cases hy : y ∈ ν
    · rw [p1 y hy] at y2
      have:=newblk y hy y1 b y2
      omega
    · rw [p2 y hy] at y2
      exact ho ⟨y,((lv y hy).1 y1).2,y2⟩
 refine ⟨φ',⟨H.fr.trans (K.fr.mono H.l0),Nat.le_trans H.l0 K.fr.size,?_,fun y e hy=>?_,fun y y' b hne h1 h2 h3 h4=>?_,fun y b h1 h2=>?_⟩,E,?_⟩
 · show g6 hp'
   show g6 (bt _ ν nw)
   rw [dp];exact eb (eb H.fin _) _
 · by_cases hyν : y ∈ ν
   · rw [q1 y hyν] at hy
     rw [p1 y hyν]
     have hkd:=kindn y e hyν hy
     have hE:=K.ent y e hy
     cases e with
     | arr T nn c =>
       obtain ⟨V,hv,hnn,k|⟨g,o,cp,cur,k1,k2,k3,k4,k5,kh,k6⟩⟩:=hE
       · exact ⟨V,hv,hnn,.inl k⟩
       · refine ⟨V,hv,hnn,.inr ⟨g,o,cp,cur,k1,k2,k3,k4,k5,kh,fun i hi j hj=>?_⟩⟩
         obtain ⟨u,m1,m2⟩:=k6 i hi j hj
         refine ⟨u,m1,?_⟩
         rcases hcases with hc|⟨hc,_⟩
         · exact m2.mono (fun b _ hb=>⟨rfl,fun h=>hb (hc b h)⟩) (Nat.le_refl _)
         · obtain ⟨r1,r2⟩:=cP hyν
           rw [← r2,dh n1 n2 r1] at hy
           injection hy with hy
           have hi' : ν.idxOf y < nw.length:=by omega
           rw [aX hi'] at hy
           have:=List.all_eq_true.1 hc _ (List.getElem_mem hi')
           rw [hy] at this
           exact gm (mR this hv i j) m2
     | _ => simp [Ent.kind] at hkd
   · rw [q2 y hyν] at hy
     rw [p2 y hyν]
     by_cases hz : y ∈ fz
     · rw [if_pos hz] at hy;injection hy with hy;subst hy;trivial
     · rw [if_neg hz] at hy
       exact (H.ent y e hy).evo E fun hk b hb=>K.fr.block b (H.lt ⟨e,hy,hk⟩ hb)
 · by_cases hy : y ∈ ν <;> by_cases hy' : y' ∈ ν
   · rw [p1 y hy] at h3;rw [p1 y' hy'] at h4
     exact K.sep y y' b hne ((lvn y hy).1 h1) ((lvn y' hy').1 h2) h3 h4
   · rw [p1 y hy] at h3;rw [p2 y' hy'] at h4
     have:=newblk y hy h1 b h3
     have:=H.lt ((lv y' hy').1 h2).2 h4
     omega
   · rw [p2 y hy] at h3;rw [p1 y' hy'] at h4
     have:=newblk y' hy' h2 b h4
     have:=H.lt ((lv y hy).1 h1).2 h3
     omega
   · rw [p2 y hy] at h3;rw [p2 y' hy'] at h4
     exact H.sep y y' b hne ((lv y hy).1 h1).2 ((lv y' hy').1 h2).2 h3 h4
 · by_cases hy : y ∈ ν
   · rw [p1 y hy] at h2
     have:=newblk y hy h1.live b h2
     have:=H.l0
     omega
   · rw [p2 y hy] at h2
     obtain ⟨e,k1,k2⟩:=h1
     rw [q2 y hy] at k1
     by_cases hz : y ∈ fz
     · rw [if_pos hz] at k1;injection k1 with k1;subst k1;simp [Ent.kind] at k2
     · rw [if_neg hz] at k1;exact H.lo y b ⟨e,k1,k2⟩ h2
 · have inν : ∀ y e,bt (ck hp1 (au avs)) ν nw y = some e → e.kind ≠ 3 → y ∈ ν:=by
    intro y e h1 h2
    by_cases hy : y ∈ ν
    · exact hy
    · rw [cV hy] at h1
      obtain ⟨rfl,_⟩:=cW h1
      exact absurd rfl h2
   have gen : ∀ {a v},AVC φ1 (bt (ck hp1 (au avs)) ν nw) w' a v → ((∀ b,Own φ' hp' b → Own φ1 (bt (ck hp1 (au avs)) ν nw) b) ∨ a.flat = true) → AVC φ' hp' w' a v:=by
    intro a v h hc
    induction h with
    | any v => exact .any v
    | c h =>
      rcases hc with hc|hc
      · exact .c (h.mono (fun b _ hb=>⟨rfl,fun h=>hb (hc b h)⟩) (Nat.le_refl _))
      · exact .c (gm hc h)
    | k v => exact .k v
    | @sl y e h hk' =>
      have hy:=inν y e h (by omega)
      rw [← p1 y hy]
      exact .sl (by rw [q1 y hy];exact h) hk'
    | @sld y e h hk' v hone =>
      have hy:=inν y e h (by omega)
      exact .sld (by rw [q1 y hy];exact h) hk' _ hone
    | @ad y off g n cp wd e h hk' hl =>
      have hy:=inν y e h (by omega)
      exact .ad (by rw [q1 y hy];exact h) hk' (by rw [p1 y hy];exact hl)
    | @add y off e h hk' v hone =>
      have hy:=inν y e h (by omega)
      exact .add (by rw [q1 y hy];exact h) hk' _ hone
    | @ea y i j g o n cp wd e h hk' hl =>
      have hy:=inν y e h (by omega)
      exact .ea (by rw [q1 y hy];exact h) hk' (by rw [p1 y hy];exact hl)
    | @ead y i j e h hk' v hone =>
      have hy:=inν y e h (by omega)
      exact .ead (by rw [q1 y hy];exact h) hk' _ hone
    | el hc' hr hO hb =>
      rcases hc with hc|hc
      · exact .el hc' (fun j hj=>(hr j hj).mono (fun b _ hb=>⟨rfl,fun h=>hb (hc b h)⟩) (Nat.le_refl _)) (fun h=>hO (hc _ h)) hb
      · simp [AV.flat] at hc
    | agg hl _ ih =>
      refine .agg hl fun i hi=>ih i hi ?_
      rcases hc with hc|hc
      · exact .inl hc
      · exact .inr (eH (by simpa [AV.flat] using hc) hi)
    | tup hl _ ih =>
      refine .tup hl fun i hi=>ih i hi ?_
      rcases hc with hc|hc
      · exact .inl hc
      · exact .inr (eH (by simpa [AV.flat] using hc) hi)
    | fn hl _ ih =>
      rcases hc with hc|hc
      · exact .fn hl fun i hi=>ih i hi (.inl hc)
      · simp [AV.flat] at hc
   exact gen hr (hcases.imp id (·.2))
theorem nJ {f : FuncId} {args avs : List AV} {nw : List Ent} {val : List Nat → AV} (hF : ap P f args nw val) {hp : Hp} (hA : g7 hp avs args) (h1 : nw.all Ent.flat = true) (h2 : ∀ ν,(val ν).flat = true) : b9 P f avs hp ⟨True,nw,[],val⟩ :=
 gH hF hA [] (fun x hx=>by cases hx) (fun e he=>by
  have:=List.all_eq_true.1 h1 e he
  cases e <;> simp [Ent.flat] at this
  rfl) (.inr ⟨h1,h2⟩)
theorem nK {f : FuncId} {args avs : List AV} {nw : List Ent} {val : List Nat → AV} (hF : ap P f args nw val) {hp : Hp} (hA : g7 hp avs args) (hn : au avs = []) (hk : ∀ e,e ∈ nw → e.kind = 1) : b9 P f avs hp ⟨True,nw,[],val⟩ :=
 gH hF hA [] (fun x hx=>by cases hx) hk (.inl fun x hx=>by rw [hn] at hx;cases hx)
end
end Go.Proofs.Ythjamlponejffaa
namespace Go.Proofs.Ythjamlponejffaa
set_option linter.unusedVariables false
set_option linter.unusedSimpArgs false
open Go.RowKit
def shB (P : Program) : TSh → TypeDesc → Bool
 | .int k, .int k' => k == k'
 | .bool, .bool => true
 | .slice e, .slice e' => e == e'
 | .struct fs, .struct F => (F.toList.map fun f => (f.offset, f.type)) == fs && (F.toList.mapM fun f => (P.info? f.type).map fun i => (f.offset, i.size)).isSome
 | .other, d => !d.isRow
 | _, _ => false
theorem nL {α β : Type} {f : α → Option β} : ∀ {l : List α} {L : List β},l.mapM f = some L → ∀ (i : Nat) x,l[i]? = some x → ∃ y,f x = some y ∧ L[i]? = some y:=by
 intro l
 induction l with
 | nil => intro L _ i x h; simp at h
 | cons a l ih =>
   intro L h i x hx
   rw [List.mapM_cons] at h
   cases ha : f a with
   | none => simp [ha] at h
   | some b =>
     cases hl : l.mapM f with
     | none => simp [ha, hl] at h
     | some M =>
       simp [ha,hl] at h
       subst h
       cases i with
       | zero => simp at hx; subst hx; exact ⟨b, ha, rfl⟩
       | succ i => simpa using ih hl i x (by simpa using hx)
theorem aY {P : Program} {T : TypeId} {t : TInfo} (z : Value) (bytes : Nat) (h1 : ((P.info? T).map fun i=>(i.zero,i.size,i.bytes)) = some (some z,t.size,bytes)) (h2 : bytes ≤ 1024) (hz : t.zero = z.cells.toList.map g9) (hl : t.zero.length = t.size) (ho : t.zero.all AV.one = true)
  (hs : ((P.underlying T).map fun d=>shB P t.sh d) = some true) (he : ∀ c,t.em = some c → c.isNN = false ∧ ∃ V,c.view = some V ∧ V.len = 0 ∧ V.wd = t.size) : ∃ i z d,TOk P T t i z d:=by
 cases hi : P.info? T with
 | none => rw [hi] at h1; cases h1
 | some i =>
   rw [hi] at h1
   simp only [Option.map_some,Option.some.injEq,Prod.mk.injEq] at h1
   obtain ⟨g1,g2,g3⟩:=h1
   cases hu : P.underlying T with
   | none => rw [hu] at hs; cases hs
   | some d =>
     rw [hu] at hs
     simp only [Option.map_some,Option.some.injEq] at hs
     refine ⟨i,z,d,hi,g2,by omega,g1,by rw [hz];simp,hl,fun j hj φ hp w=>?_,ho,hu,?_,?_,he⟩
     · rw [hz] at hj ⊢
       have hj' : j < z.cells.toList.length:=by simpa using hj
       rw [fm]
       simp only [List.getD_eq_getElem?_getD,List.getElem?_map,List.getElem?_eq_getElem hj',Option.map_some,Option.getD_some]
       exact jp _
     · revert hs
       cases t.sh <;> cases d <;> intro hs <;> simp only [shB,Bool.false_eq_true,beq_iff_eq,Bool.and_eq_true,Bool.not_eq_true',fk,reduceCtorEq] at hs ⊢
       all_goals first
        | trivial
        | (rw [hs]; done)
        | (simp [TypeDesc.isRow] at hs; done)
        | rfl
        | skip
       obtain ⟨k1,k2⟩:=hs
       refine ⟨_,rfl,fun i o T' h=>?_⟩
       rw [← k1,List.getElem?_map] at h
       rename_i fs F
       cases hf : F.toList[i]? with
       | none => rw [hf] at h; cases h
       | some f =>
         rw [hf] at h
         simp only [Option.map_some,Option.some.injEq,Prod.mk.injEq] at h
         exact ⟨f,by simpa using hf,h.1,h.2⟩
     · intro F fs hsh hd
       subst hd
       rw [hsh] at hs
       simp only [shB,Bool.and_eq_true,beq_iff_eq] at hs
       obtain ⟨k1,k2⟩:=hs
       obtain ⟨places,hp⟩:=Option.isSome_iff_exists.1 k2
       refine ⟨places,hp,fun i o T' h=>?_⟩
       rw [← k1,List.getElem?_map] at h
       cases hf : F.toList[i]? with
       | none => rw [hf] at h; cases h
       | some f =>
         rw [hf] at h
         simp only [Option.map_some,Option.some.injEq,Prod.mk.injEq] at h
         obtain ⟨y,y1,y2⟩:=nL hp i f hf
         cases hi' : P.info? f.type with
         | none => rw [hi'] at y1; cases y1
         | some i' =>
           rw [hi'] at y1
           simp only [Option.map_some,Option.some.injEq] at y1
           exact ⟨i',by rw [← h.2];exact hi',by rw [y2,← y1,h.1]⟩
def tiL : List (Nat × TInfo):=[
 (2,⟨.int .i64,1,[.c (.int .i64 0)],some (.I [])⟩),
 (3,⟨.int .i64,1,[.c (.int .i64 0)],some (.I [])⟩),
 (4,⟨.bool,1,[.c (.bool false)],some (.B [])⟩),
 (5,⟨.int .u8,1,[.c (.int .u8 0)],some (.Y [])⟩),
 (6,⟨.int .u8,1,[.c (.int .u8 0)],some (.Y [])⟩),
 (7,⟨.struct [(0,2),(1,3),(2,4),(3,6)],4,[.c (.int .i64 0),.c (.int .i64 0),.c (.bool false),.c (.int .u8 0)],some (.V 4 [])⟩),
 (8,⟨.struct [(0,2),(1,3),(2,4),(3,6)],4,[.c (.int .i64 0),.c (.int .i64 0),.c (.bool false),.c (.int .u8 0)],some (.V 4 [])⟩),
 (12,⟨.int .u64,1,[.c (.int .u64 0)],none⟩),
 (15,⟨.other,1,[.k (Value.pointer none)],none⟩),
 (16,⟨.other,1,[.k (Value.pointer none)],none⟩),
 (17,⟨.other,1,[.k (Value.pointer none)],none⟩),
 (18,⟨.struct [(0,17)],1,[.k (Value.pointer none)],some (.V 1 [])⟩),
 (19,⟨.struct [(0,17)],1,[.k (Value.pointer none)],some (.V 1 [])⟩),
 (21,⟨.int .i32,1,[.c (.int .i32 0)],none⟩),
 (22,⟨.slice 2,1,[.c .nul],some (.R [])⟩),
 (23,⟨.slice 22,1,[.c .nul],some (.V 1 [])⟩),
 (24,⟨.struct [(0,22),(1,23)],2,[.c .nul,.c .nul],some (.V 2 [])⟩),
 (25,⟨.struct [(0,22),(1,23)],2,[.c .nul,.c .nul],some (.V 2 [])⟩),
 (26,⟨.struct [(0,25),(2,22)],3,[.c .nul,.c .nul,.c .nul],some (.V 3 [])⟩),
 (27,⟨.struct [(0,25),(2,22)],3,[.c .nul,.c .nul,.c .nul],some (.V 3 [])⟩),
 (30,⟨.struct [(0,22),(1,23)],2,[.c .nul,.c .nul],some (.V 2 [])⟩),
 (31,⟨.struct [(0,30),(2,22)],3,[.c .nul,.c .nul,.c .nul],some (.V 3 [])⟩),
 (32,⟨.struct [(0,30),(2,22)],3,[.c .nul,.c .nul,.c .nul],some (.V 3 [])⟩),
 (42,⟨.slice 5,1,[.c .nul],some (.V 1 [])⟩),
 (44,⟨.other,1,[.k (Value.pointer none)],none⟩),
 (46,⟨.int .u64,1,[.c (.int .u64 0)],none⟩),
 (54,⟨.struct [(0,22),(1,22)],2,[.c .nul,.c .nul],some (.V 2 [])⟩),
 (55,⟨.struct [(0,22),(1,22)],2,[.c .nul,.c .nul],some (.V 2 [])⟩),
 (69,⟨.slice 4,1,[.c .nul],some (.V 1 [])⟩),
 (71,⟨.struct [(0,22),(1,22),(2,23),(3,23),(4,22)],5,[.c .nul,.c .nul,.c .nul,.c .nul,.c .nul],some (.V 5 [])⟩),
 (72,⟨.struct [(0,22),(1,22),(2,23),(3,23),(4,22)],5,[.c .nul,.c .nul,.c .nul,.c .nul,.c .nul],some (.V 5 [])⟩),
 (76,⟨.other,1,[.k (Value.pointer none)],none⟩),
 (81,⟨.struct [(0,42),(1,3),(2,46)],3,[.c .nul,.c (.int .i64 0),.c (.int .u64 0)],some (.V 3 [])⟩),
 (82,⟨.struct [(0,42),(1,3),(2,46)],3,[.c .nul,.c (.int .i64 0),.c (.int .u64 0)],some (.V 3 [])⟩),
 (84,⟨.int .u64,1,[.c (.int .u64 0)],none⟩),
 (98,⟨.other,1,[.k (Value.map none)],none⟩),
 (99,⟨.struct [(0,32),(3,98)],4,[.c .nul,.c .nul,.c .nul,.k (Value.map none)],some (.V 4 [])⟩),
 (100,⟨.struct [(0,32),(3,98)],4,[.c .nul,.c .nul,.c .nul,.k (Value.map none)],some (.V 4 [])⟩),
 (101,⟨.struct [(0,2),(1,2),(2,2),(3,2),(4,2)],5,[.c (.int .i64 0),.c (.int .i64 0),.c (.int .i64 0),.c (.int .i64 0),.c (.int .i64 0)],some (.V 5 [])⟩),
 (102,⟨.struct [(0,2),(1,2),(2,2),(3,2),(4,2)],5,[.c (.int .i64 0),.c (.int .i64 0),.c (.int .i64 0),.c (.int .i64 0),.c (.int .i64 0)],some (.V 5 [])⟩),
 (115,⟨.other,1,[.k (Value.map none)],none⟩),
 (132,⟨.int .i64,1,[.c (.int .i64 0)],some (.I [])⟩),
 (139,⟨.int .u32,1,[.c (.int .u32 0)],none⟩),
 (141,⟨.int .u64,1,[.c (.int .u64 0)],none⟩),
 (145,⟨.other,1,[.k (Value.pointer none)],none⟩),
 (147,⟨.other,1,[.k (Value.pointer none)],none⟩),
 (157,⟨.int .u8,1,[.c (.int .u8 0)],some (.Y [])⟩),
 (158,⟨.int .u8,1,[.c (.int .u8 0)],some (.Y [])⟩),
 (160,⟨.other,1,[.k (Value.pointer none)],none⟩),
 (161,⟨.int .i32,1,[.c (.int .i32 0)],none⟩),
 (162,⟨.int .i32,1,[.c (.int .i32 0)],none⟩)]
def ti : TI:=fun T=>tiL.lookup T
theorem ti2 : ti 2 = some ⟨.int .i64,1,[.c (.int .i64 0)],some (.I [])⟩:=rfl
theorem ti3 : ti 3 = some ⟨.int .i64,1,[.c (.int .i64 0)],some (.I [])⟩:=rfl
theorem ti4 : ti 4 = some ⟨.bool,1,[.c (.bool false)],some (.B [])⟩:=rfl
theorem ti5 : ti 5 = some ⟨.int .u8,1,[.c (.int .u8 0)],some (.Y [])⟩:=rfl
theorem ti6 : ti 6 = some ⟨.int .u8,1,[.c (.int .u8 0)],some (.Y [])⟩:=rfl
theorem ti7 : ti 7 = some ⟨.struct [(0,2),(1,3),(2,4),(3,6)],4,[.c (.int .i64 0),.c (.int .i64 0),.c (.bool false),.c (.int .u8 0)],some (.V 4 [])⟩:=rfl
theorem ti8 : ti 8 = some ⟨.struct [(0,2),(1,3),(2,4),(3,6)],4,[.c (.int .i64 0),.c (.int .i64 0),.c (.bool false),.c (.int .u8 0)],some (.V 4 [])⟩:=rfl
theorem tW : ti 12 = some ⟨.int .u64,1,[.c (.int .u64 0)],none⟩:=rfl
theorem tX : ti 15 = some ⟨.other,1,[.k (Value.pointer none)],none⟩:=rfl
theorem tY : ti 16 = some ⟨.other,1,[.k (Value.pointer none)],none⟩:=rfl
theorem tZ : ti 17 = some ⟨.other,1,[.k (Value.pointer none)],none⟩:=rfl
theorem t6 : ti 18 = some ⟨.struct [(0,17)],1,[.k (Value.pointer none)],some (.V 1 [])⟩:=rfl
theorem t7 : ti 19 = some ⟨.struct [(0,17)],1,[.k (Value.pointer none)],some (.V 1 [])⟩:=rfl
theorem t8 : ti 21 = some ⟨.int .i32,1,[.c (.int .i32 0)],none⟩:=rfl
theorem ub : ti 22 = some ⟨.slice 2,1,[.c .nul],some (.R [])⟩:=rfl
theorem uc : ti 23 = some ⟨.slice 22,1,[.c .nul],some (.V 1 [])⟩:=rfl
theorem ud : ti 24 = some ⟨.struct [(0,22),(1,23)],2,[.c .nul,.c .nul],some (.V 2 [])⟩:=rfl
theorem uf : ti 25 = some ⟨.struct [(0,22),(1,23)],2,[.c .nul,.c .nul],some (.V 2 [])⟩:=rfl
theorem ug : ti 26 = some ⟨.struct [(0,25),(2,22)],3,[.c .nul,.c .nul,.c .nul],some (.V 3 [])⟩:=rfl
theorem uh : ti 27 = some ⟨.struct [(0,25),(2,22)],3,[.c .nul,.c .nul,.c .nul],some (.V 3 [])⟩:=rfl
theorem ui : ti 30 = some ⟨.struct [(0,22),(1,23)],2,[.c .nul,.c .nul],some (.V 2 [])⟩:=rfl
theorem uj : ti 31 = some ⟨.struct [(0,30),(2,22)],3,[.c .nul,.c .nul,.c .nul],some (.V 3 [])⟩:=rfl
theorem uk : ti 32 = some ⟨.struct [(0,30),(2,22)],3,[.c .nul,.c .nul,.c .nul],some (.V 3 [])⟩:=rfl
theorem ul : ti 42 = some ⟨.slice 5,1,[.c .nul],some (.V 1 [])⟩:=rfl
theorem um : ti 44 = some ⟨.other,1,[.k (Value.pointer none)],none⟩:=rfl
theorem un : ti 46 = some ⟨.int .u64,1,[.c (.int .u64 0)],none⟩:=rfl
theorem uo : ti 54 = some ⟨.struct [(0,22),(1,22)],2,[.c .nul,.c .nul],some (.V 2 [])⟩:=rfl
theorem uq : ti 55 = some ⟨.struct [(0,22),(1,22)],2,[.c .nul,.c .nul],some (.V 2 [])⟩:=rfl
theorem ur : ti 69 = some ⟨.slice 4,1,[.c .nul],some (.V 1 [])⟩:=rfl
theorem ut : ti 71 = some ⟨.struct [(0,22),(1,22),(2,23),(3,23),(4,22)],5,[.c .nul,.c .nul,.c .nul,.c .nul,.c .nul],some (.V 5 [])⟩:=rfl
theorem uu : ti 72 = some ⟨.struct [(0,22),(1,22),(2,23),(3,23),(4,22)],5,[.c .nul,.c .nul,.c .nul,.c .nul,.c .nul],some (.V 5 [])⟩:=rfl
theorem uv : ti 76 = some ⟨.other,1,[.k (Value.pointer none)],none⟩:=rfl
theorem uw : ti 81 = some ⟨.struct [(0,42),(1,3),(2,46)],3,[.c .nul,.c (.int .i64 0),.c (.int .u64 0)],some (.V 3 [])⟩:=rfl
theorem ux : ti 82 = some ⟨.struct [(0,42),(1,3),(2,46)],3,[.c .nul,.c (.int .i64 0),.c (.int .u64 0)],some (.V 3 [])⟩:=rfl
theorem uy : ti 84 = some ⟨.int .u64,1,[.c (.int .u64 0)],none⟩:=rfl
theorem uz : ti 98 = some ⟨.other,1,[.k (Value.map none)],none⟩:=rfl
theorem uA : ti 99 = some ⟨.struct [(0,32),(3,98)],4,[.c .nul,.c .nul,.c .nul,.k (Value.map none)],some (.V 4 [])⟩:=rfl
theorem sn : ti 100 = some ⟨.struct [(0,32),(3,98)],4,[.c .nul,.c .nul,.c .nul,.k (Value.map none)],some (.V 4 [])⟩:=rfl
theorem so : ti 101 = some ⟨.struct [(0,2),(1,2),(2,2),(3,2),(4,2)],5,[.c (.int .i64 0),.c (.int .i64 0),.c (.int .i64 0),.c (.int .i64 0),.c (.int .i64 0)],some (.V 5 [])⟩:=rfl
theorem sr : ti 102 = some ⟨.struct [(0,2),(1,2),(2,2),(3,2),(4,2)],5,[.c (.int .i64 0),.c (.int .i64 0),.c (.int .i64 0),.c (.int .i64 0),.c (.int .i64 0)],some (.V 5 [])⟩:=rfl
theorem ss : ti 115 = some ⟨.other,1,[.k (Value.map none)],none⟩:=rfl
theorem sy : ti 132 = some ⟨.int .i64,1,[.c (.int .i64 0)],some (.I [])⟩:=rfl
theorem sA : ti 139 = some ⟨.int .u32,1,[.c (.int .u32 0)],none⟩:=rfl
theorem sB : ti 141 = some ⟨.int .u64,1,[.c (.int .u64 0)],none⟩:=rfl
theorem sC : ti 145 = some ⟨.other,1,[.k (Value.pointer none)],none⟩:=rfl
theorem sD : ti 147 = some ⟨.other,1,[.k (Value.pointer none)],none⟩:=rfl
theorem sE : ti 157 = some ⟨.int .u8,1,[.c (.int .u8 0)],some (.Y [])⟩:=rfl
theorem sF : ti 158 = some ⟨.int .u8,1,[.c (.int .u8 0)],some (.Y [])⟩:=rfl
theorem sG : ti 160 = some ⟨.other,1,[.k (Value.pointer none)],none⟩:=rfl
theorem sH : ti 161 = some ⟨.int .i32,1,[.c (.int .i32 0)],none⟩:=rfl
theorem sI : ti 162 = some ⟨.int .i32,1,[.c (.int .i32 0)],none⟩:=rfl
theorem uB : ∃ i z d,TOk Try.prog 2 ⟨.int .i64,1,[.c (.int .i64 0)],some (.I [])⟩ i z d:=aY (Value.int .i64 0) 8 (by kernel_rfl) (by decide) rfl rfl rfl (by kernel_rfl) (fun c h=>by injection h with h;subst h;exact ⟨rfl,_,rfl,rfl,rfl⟩)
theorem uC : ∃ i z d,TOk Try.prog 3 ⟨.int .i64,1,[.c (.int .i64 0)],some (.I [])⟩ i z d:=aY (Value.int .i64 0) 8 (by kernel_rfl) (by decide) rfl rfl rfl (by kernel_rfl) (fun c h=>by injection h with h;subst h;exact ⟨rfl,_,rfl,rfl,rfl⟩)
theorem uD : ∃ i z d,TOk Try.prog 4 ⟨.bool,1,[.c (.bool false)],some (.B [])⟩ i z d:=aY (Value.bool false) 1 (by kernel_rfl) (by decide) rfl rfl rfl (by kernel_rfl) (fun c h=>by injection h with h;subst h;exact ⟨rfl,_,rfl,rfl,rfl⟩)
theorem uE : ∃ i z d,TOk Try.prog 5 ⟨.int .u8,1,[.c (.int .u8 0)],some (.Y [])⟩ i z d:=aY (Value.int .u8 0) 1 (by kernel_rfl) (by decide) rfl rfl rfl (by kernel_rfl) (fun c h=>by injection h with h;subst h;exact ⟨rfl,_,rfl,rfl,rfl⟩)
theorem uF : ∃ i z d,TOk Try.prog 6 ⟨.int .u8,1,[.c (.int .u8 0)],some (.Y [])⟩ i z d:=aY (Value.int .u8 0) 1 (by kernel_rfl) (by decide) rfl rfl rfl (by kernel_rfl) (fun c h=>by injection h with h;subst h;exact ⟨rfl,_,rfl,rfl,rfl⟩)
theorem uG : ∃ i z d,TOk Try.prog 7 ⟨.struct [(0,2),(1,3),(2,4),(3,6)],4,[.c (.int .i64 0),.c (.int .i64 0),.c (.bool false),.c (.int .u8 0)],some (.V 4 [])⟩ i z d:=aY (.agg #[Value.int .i64 0,Value.int .i64 0,Value.bool false,Value.int .u8 0]) 24 (by kernel_rfl) (by decide) rfl rfl rfl (by kernel_rfl) (fun c h=>by injection h with h;subst h;exact ⟨rfl,_,rfl,rfl,rfl⟩)
theorem uH : ∃ i z d,TOk Try.prog 8 ⟨.struct [(0,2),(1,3),(2,4),(3,6)],4,[.c (.int .i64 0),.c (.int .i64 0),.c (.bool false),.c (.int .u8 0)],some (.V 4 [])⟩ i z d:=aY (.agg #[Value.int .i64 0,Value.int .i64 0,Value.bool false,Value.int .u8 0]) 24 (by kernel_rfl) (by decide) rfl rfl rfl (by kernel_rfl) (fun c h=>by injection h with h;subst h;exact ⟨rfl,_,rfl,rfl,rfl⟩)
theorem sJ : ∃ i z d,TOk Try.prog 12 ⟨.int .u64,1,[.c (.int .u64 0)],none⟩ i z d:=aY (Value.int .u64 0) 8 (by kernel_rfl) (by decide) rfl rfl rfl (by kernel_rfl) (fun c h=>by cases h)
theorem sK : ∃ i z d,TOk Try.prog 15 ⟨.other,1,[.k (Value.pointer none)],none⟩ i z d:=aY (Value.pointer none) 8 (by kernel_rfl) (by decide) rfl rfl rfl (by kernel_rfl) (fun c h=>by cases h)
theorem sL : ∃ i z d,TOk Try.prog 16 ⟨.other,1,[.k (Value.pointer none)],none⟩ i z d:=aY (Value.pointer none) 8 (by kernel_rfl) (by decide) rfl rfl rfl (by kernel_rfl) (fun c h=>by cases h)
theorem sM : ∃ i z d,TOk Try.prog 17 ⟨.other,1,[.k (Value.pointer none)],none⟩ i z d:=aY (Value.pointer none) 8 (by kernel_rfl) (by decide) rfl rfl rfl (by kernel_rfl) (fun c h=>by cases h)
theorem sN : ∃ i z d,TOk Try.prog 18 ⟨.struct [(0,17)],1,[.k (Value.pointer none)],some (.V 1 [])⟩ i z d:=aY (.agg #[Value.pointer none]) 8 (by kernel_rfl) (by decide) rfl rfl rfl (by kernel_rfl) (fun c h=>by injection h with h;subst h;exact ⟨rfl,_,rfl,rfl,rfl⟩)
theorem sO : ∃ i z d,TOk Try.prog 19 ⟨.struct [(0,17)],1,[.k (Value.pointer none)],some (.V 1 [])⟩ i z d:=aY (.agg #[Value.pointer none]) 8 (by kernel_rfl) (by decide) rfl rfl rfl (by kernel_rfl) (fun c h=>by injection h with h;subst h;exact ⟨rfl,_,rfl,rfl,rfl⟩)
theorem sP : ∃ i z d,TOk Try.prog 21 ⟨.int .i32,1,[.c (.int .i32 0)],none⟩ i z d:=aY (Value.int .i32 0) 4 (by kernel_rfl) (by decide) rfl rfl rfl (by kernel_rfl) (fun c h=>by cases h)
theorem sQ : ∃ i z d,TOk Try.prog 22 ⟨.slice 2,1,[.c .nul],some (.R [])⟩ i z d:=aY (Value.slice none 0 0) 24 (by kernel_rfl) (by decide) rfl rfl rfl (by kernel_rfl) (fun c h=>by injection h with h;subst h;exact ⟨rfl,_,rfl,rfl,rfl⟩)
theorem sR : ∃ i z d,TOk Try.prog 23 ⟨.slice 22,1,[.c .nul],some (.V 1 [])⟩ i z d:=aY (Value.slice none 0 0) 24 (by kernel_rfl) (by decide) rfl rfl rfl (by kernel_rfl) (fun c h=>by injection h with h;subst h;exact ⟨rfl,_,rfl,rfl,rfl⟩)
theorem sS : ∃ i z d,TOk Try.prog 24 ⟨.struct [(0,22),(1,23)],2,[.c .nul,.c .nul],some (.V 2 [])⟩ i z d:=aY (.agg #[Value.slice none 0 0,Value.slice none 0 0]) 48 (by kernel_rfl) (by decide) rfl rfl rfl (by kernel_rfl) (fun c h=>by injection h with h;subst h;exact ⟨rfl,_,rfl,rfl,rfl⟩)
theorem sT : ∃ i z d,TOk Try.prog 25 ⟨.struct [(0,22),(1,23)],2,[.c .nul,.c .nul],some (.V 2 [])⟩ i z d:=aY (.agg #[Value.slice none 0 0,Value.slice none 0 0]) 48 (by kernel_rfl) (by decide) rfl rfl rfl (by kernel_rfl) (fun c h=>by injection h with h;subst h;exact ⟨rfl,_,rfl,rfl,rfl⟩)
theorem sU : ∃ i z d,TOk Try.prog 26 ⟨.struct [(0,25),(2,22)],3,[.c .nul,.c .nul,.c .nul],some (.V 3 [])⟩ i z d:=aY (.agg #[Value.slice none 0 0,Value.slice none 0 0,Value.slice none 0 0]) 72 (by kernel_rfl) (by decide) rfl rfl rfl (by kernel_rfl) (fun c h=>by injection h with h;subst h;exact ⟨rfl,_,rfl,rfl,rfl⟩)
theorem sV : ∃ i z d,TOk Try.prog 27 ⟨.struct [(0,25),(2,22)],3,[.c .nul,.c .nul,.c .nul],some (.V 3 [])⟩ i z d:=aY (.agg #[Value.slice none 0 0,Value.slice none 0 0,Value.slice none 0 0]) 72 (by kernel_rfl) (by decide) rfl rfl rfl (by kernel_rfl) (fun c h=>by injection h with h;subst h;exact ⟨rfl,_,rfl,rfl,rfl⟩)
theorem sW : ∃ i z d,TOk Try.prog 30 ⟨.struct [(0,22),(1,23)],2,[.c .nul,.c .nul],some (.V 2 [])⟩ i z d:=aY (.agg #[Value.slice none 0 0,Value.slice none 0 0]) 48 (by kernel_rfl) (by decide) rfl rfl rfl (by kernel_rfl) (fun c h=>by injection h with h;subst h;exact ⟨rfl,_,rfl,rfl,rfl⟩)
theorem sX : ∃ i z d,TOk Try.prog 31 ⟨.struct [(0,30),(2,22)],3,[.c .nul,.c .nul,.c .nul],some (.V 3 [])⟩ i z d:=aY (.agg #[Value.slice none 0 0,Value.slice none 0 0,Value.slice none 0 0]) 72 (by kernel_rfl) (by decide) rfl rfl rfl (by kernel_rfl) (fun c h=>by injection h with h;subst h;exact ⟨rfl,_,rfl,rfl,rfl⟩)
theorem sY : ∃ i z d,TOk Try.prog 32 ⟨.struct [(0,30),(2,22)],3,[.c .nul,.c .nul,.c .nul],some (.V 3 [])⟩ i z d:=aY (.agg #[Value.slice none 0 0,Value.slice none 0 0,Value.slice none 0 0]) 72 (by kernel_rfl) (by decide) rfl rfl rfl (by kernel_rfl) (fun c h=>by injection h with h;subst h;exact ⟨rfl,_,rfl,rfl,rfl⟩)
theorem sZ : ∃ i z d,TOk Try.prog 42 ⟨.slice 5,1,[.c .nul],some (.V 1 [])⟩ i z d:=aY (Value.slice none 0 0) 24 (by kernel_rfl) (by decide) rfl rfl rfl (by kernel_rfl) (fun c h=>by injection h with h;subst h;exact ⟨rfl,_,rfl,rfl,rfl⟩)
theorem s8 : ∃ i z d,TOk Try.prog 44 ⟨.other,1,[.k (Value.pointer none)],none⟩ i z d:=aY (Value.pointer none) 8 (by kernel_rfl) (by decide) rfl rfl rfl (by kernel_rfl) (fun c h=>by cases h)
theorem s9 : ∃ i z d,TOk Try.prog 46 ⟨.int .u64,1,[.c (.int .u64 0)],none⟩ i z d:=aY (Value.int .u64 0) 8 (by kernel_rfl) (by decide) rfl rfl rfl (by kernel_rfl) (fun c h=>by cases h)
theorem ta : ∃ i z d,TOk Try.prog 54 ⟨.struct [(0,22),(1,22)],2,[.c .nul,.c .nul],some (.V 2 [])⟩ i z d:=aY (.agg #[Value.slice none 0 0,Value.slice none 0 0]) 48 (by kernel_rfl) (by decide) rfl rfl rfl (by kernel_rfl) (fun c h=>by injection h with h;subst h;exact ⟨rfl,_,rfl,rfl,rfl⟩)
theorem tb : ∃ i z d,TOk Try.prog 55 ⟨.struct [(0,22),(1,22)],2,[.c .nul,.c .nul],some (.V 2 [])⟩ i z d:=aY (.agg #[Value.slice none 0 0,Value.slice none 0 0]) 48 (by kernel_rfl) (by decide) rfl rfl rfl (by kernel_rfl) (fun c h=>by injection h with h;subst h;exact ⟨rfl,_,rfl,rfl,rfl⟩)
theorem tc : ∃ i z d,TOk Try.prog 69 ⟨.slice 4,1,[.c .nul],some (.V 1 [])⟩ i z d:=aY (Value.slice none 0 0) 24 (by kernel_rfl) (by decide) rfl rfl rfl (by kernel_rfl) (fun c h=>by injection h with h;subst h;exact ⟨rfl,_,rfl,rfl,rfl⟩)
theorem td : ∃ i z d,TOk Try.prog 71 ⟨.struct [(0,22),(1,22),(2,23),(3,23),(4,22)],5,[.c .nul,.c .nul,.c .nul,.c .nul,.c .nul],some (.V 5 [])⟩ i z d:=aY (.agg #[Value.slice none 0 0,Value.slice none 0 0,Value.slice none 0 0,Value.slice none 0 0,Value.slice none 0 0]) 120 (by kernel_rfl) (by decide) rfl rfl rfl (by kernel_rfl) (fun c h=>by injection h with h;subst h;exact ⟨rfl,_,rfl,rfl,rfl⟩)
theorem tg : ∃ i z d,TOk Try.prog 72 ⟨.struct [(0,22),(1,22),(2,23),(3,23),(4,22)],5,[.c .nul,.c .nul,.c .nul,.c .nul,.c .nul],some (.V 5 [])⟩ i z d:=aY (.agg #[Value.slice none 0 0,Value.slice none 0 0,Value.slice none 0 0,Value.slice none 0 0,Value.slice none 0 0]) 120 (by kernel_rfl) (by decide) rfl rfl rfl (by kernel_rfl) (fun c h=>by injection h with h;subst h;exact ⟨rfl,_,rfl,rfl,rfl⟩)
theorem th : ∃ i z d,TOk Try.prog 76 ⟨.other,1,[.k (Value.pointer none)],none⟩ i z d:=aY (Value.pointer none) 8 (by kernel_rfl) (by decide) rfl rfl rfl (by kernel_rfl) (fun c h=>by cases h)
theorem tj : ∃ i z d,TOk Try.prog 81 ⟨.struct [(0,42),(1,3),(2,46)],3,[.c .nul,.c (.int .i64 0),.c (.int .u64 0)],some (.V 3 [])⟩ i z d:=aY (.agg #[Value.slice none 0 0,Value.int .i64 0,Value.int .u64 0]) 40 (by kernel_rfl) (by decide) rfl rfl rfl (by kernel_rfl) (fun c h=>by injection h with h;subst h;exact ⟨rfl,_,rfl,rfl,rfl⟩)
theorem tk : ∃ i z d,TOk Try.prog 82 ⟨.struct [(0,42),(1,3),(2,46)],3,[.c .nul,.c (.int .i64 0),.c (.int .u64 0)],some (.V 3 [])⟩ i z d:=aY (.agg #[Value.slice none 0 0,Value.int .i64 0,Value.int .u64 0]) 40 (by kernel_rfl) (by decide) rfl rfl rfl (by kernel_rfl) (fun c h=>by injection h with h;subst h;exact ⟨rfl,_,rfl,rfl,rfl⟩)
theorem tl : ∃ i z d,TOk Try.prog 84 ⟨.int .u64,1,[.c (.int .u64 0)],none⟩ i z d:=aY (Value.int .u64 0) 8 (by kernel_rfl) (by decide) rfl rfl rfl (by kernel_rfl) (fun c h=>by cases h)
theorem tn : ∃ i z d,TOk Try.prog 98 ⟨.other,1,[.k (Value.map none)],none⟩ i z d:=aY (Value.map none) 8 (by kernel_rfl) (by decide) rfl rfl rfl (by kernel_rfl) (fun c h=>by cases h)
theorem tp : ∃ i z d,TOk Try.prog 99 ⟨.struct [(0,32),(3,98)],4,[.c .nul,.c .nul,.c .nul,.k (Value.map none)],some (.V 4 [])⟩ i z d:=aY (.agg #[Value.slice none 0 0,Value.slice none 0 0,Value.slice none 0 0,Value.map none]) 80 (by kernel_rfl) (by decide) rfl rfl rfl (by kernel_rfl) (fun c h=>by injection h with h;subst h;exact ⟨rfl,_,rfl,rfl,rfl⟩)
theorem ry : ∃ i z d,TOk Try.prog 100 ⟨.struct [(0,32),(3,98)],4,[.c .nul,.c .nul,.c .nul,.k (Value.map none)],some (.V 4 [])⟩ i z d:=aY (.agg #[Value.slice none 0 0,Value.slice none 0 0,Value.slice none 0 0,Value.map none]) 80 (by kernel_rfl) (by decide) rfl rfl rfl (by kernel_rfl) (fun c h=>by injection h with h;subst h;exact ⟨rfl,_,rfl,rfl,rfl⟩)
theorem rz : ∃ i z d,TOk Try.prog 101 ⟨.struct [(0,2),(1,2),(2,2),(3,2),(4,2)],5,[.c (.int .i64 0),.c (.int .i64 0),.c (.int .i64 0),.c (.int .i64 0),.c (.int .i64 0)],some (.V 5 [])⟩ i z d:=aY (.agg #[Value.int .i64 0,Value.int .i64 0,Value.int .i64 0,Value.int .i64 0,Value.int .i64 0]) 40 (by kernel_rfl) (by decide) rfl rfl rfl (by kernel_rfl) (fun c h=>by injection h with h;subst h;exact ⟨rfl,_,rfl,rfl,rfl⟩)
theorem rA : ∃ i z d,TOk Try.prog 102 ⟨.struct [(0,2),(1,2),(2,2),(3,2),(4,2)],5,[.c (.int .i64 0),.c (.int .i64 0),.c (.int .i64 0),.c (.int .i64 0),.c (.int .i64 0)],some (.V 5 [])⟩ i z d:=aY (.agg #[Value.int .i64 0,Value.int .i64 0,Value.int .i64 0,Value.int .i64 0,Value.int .i64 0]) 40 (by kernel_rfl) (by decide) rfl rfl rfl (by kernel_rfl) (fun c h=>by injection h with h;subst h;exact ⟨rfl,_,rfl,rfl,rfl⟩)
theorem rB : ∃ i z d,TOk Try.prog 115 ⟨.other,1,[.k (Value.map none)],none⟩ i z d:=aY (Value.map none) 8 (by kernel_rfl) (by decide) rfl rfl rfl (by kernel_rfl) (fun c h=>by cases h)
theorem rC : ∃ i z d,TOk Try.prog 132 ⟨.int .i64,1,[.c (.int .i64 0)],some (.I [])⟩ i z d:=aY (Value.int .i64 0) 8 (by kernel_rfl) (by decide) rfl rfl rfl (by kernel_rfl) (fun c h=>by injection h with h;subst h;exact ⟨rfl,_,rfl,rfl,rfl⟩)
theorem rD : ∃ i z d,TOk Try.prog 139 ⟨.int .u32,1,[.c (.int .u32 0)],none⟩ i z d:=aY (Value.int .u32 0) 4 (by kernel_rfl) (by decide) rfl rfl rfl (by kernel_rfl) (fun c h=>by cases h)
theorem rE : ∃ i z d,TOk Try.prog 141 ⟨.int .u64,1,[.c (.int .u64 0)],none⟩ i z d:=aY (Value.int .u64 0) 8 (by kernel_rfl) (by decide) rfl rfl rfl (by kernel_rfl) (fun c h=>by cases h)
theorem rF : ∃ i z d,TOk Try.prog 145 ⟨.other,1,[.k (Value.pointer none)],none⟩ i z d:=aY (Value.pointer none) 8 (by kernel_rfl) (by decide) rfl rfl rfl (by kernel_rfl) (fun c h=>by cases h)
theorem rG : ∃ i z d,TOk Try.prog 147 ⟨.other,1,[.k (Value.pointer none)],none⟩ i z d:=aY (Value.pointer none) 8 (by kernel_rfl) (by decide) rfl rfl rfl (by kernel_rfl) (fun c h=>by cases h)
theorem rH : ∃ i z d,TOk Try.prog 157 ⟨.int .u8,1,[.c (.int .u8 0)],some (.Y [])⟩ i z d:=aY (Value.int .u8 0) 1 (by kernel_rfl) (by decide) rfl rfl rfl (by kernel_rfl) (fun c h=>by injection h with h;subst h;exact ⟨rfl,_,rfl,rfl,rfl⟩)
theorem rI : ∃ i z d,TOk Try.prog 158 ⟨.int .u8,1,[.c (.int .u8 0)],some (.Y [])⟩ i z d:=aY (Value.int .u8 0) 1 (by kernel_rfl) (by decide) rfl rfl rfl (by kernel_rfl) (fun c h=>by injection h with h;subst h;exact ⟨rfl,_,rfl,rfl,rfl⟩)
theorem rJ : ∃ i z d,TOk Try.prog 160 ⟨.other,1,[.k (Value.pointer none)],none⟩ i z d:=aY (Value.pointer none) 8 (by kernel_rfl) (by decide) rfl rfl rfl (by kernel_rfl) (fun c h=>by cases h)
theorem rK : ∃ i z d,TOk Try.prog 161 ⟨.int .i32,1,[.c (.int .i32 0)],none⟩ i z d:=aY (Value.int .i32 0) 4 (by kernel_rfl) (by decide) rfl rfl rfl (by kernel_rfl) (fun c h=>by cases h)
theorem rL : ∃ i z d,TOk Try.prog 162 ⟨.int .i32,1,[.c (.int .i32 0)],none⟩ i z d:=aY (Value.int .i32 0) 4 (by kernel_rfl) (by decide) rfl rfl rfl (by kernel_rfl) (fun c h=>by cases h)
theorem mb {l : List (Nat × TInfo)} {T : Nat} {t : TInfo} (h : l.lookup T = some t) : (T,t) ∈ l:=by
 induction l with
 | nil => cases h
 | cons p l ih =>
   obtain ⟨a,b⟩:=p
   rw [List.lookup_cons] at h
   split at h
   · rename_i hb
     injection h with h
     subst h
     have : T = a:=by simpa using hb
     subst this;exact List.mem_cons_self
   · exact List.mem_cons_of_mem _ (ih h)
theorem tq : ∀ p,p ∈ tiL → ∃ i z d,TOk Try.prog p.1 p.2 i z d:=List.forall_mem_cons.2 ⟨uB,List.forall_mem_cons.2 ⟨uC,List.forall_mem_cons.2 ⟨uD,List.forall_mem_cons.2 ⟨uE,List.forall_mem_cons.2 ⟨uF,List.forall_mem_cons.2 ⟨uG,List.forall_mem_cons.2 ⟨uH,List.forall_mem_cons.2 ⟨sJ,List.forall_mem_cons.2 ⟨sK,List.forall_mem_cons.2 ⟨sL,List.forall_mem_cons.2 ⟨sM,List.forall_mem_cons.2 ⟨sN,List.forall_mem_cons.2 ⟨sO,List.forall_mem_cons.2 ⟨sP,List.forall_mem_cons.2 ⟨sQ,List.forall_mem_cons.2 ⟨sR,List.forall_mem_cons.2 ⟨sS,List.forall_mem_cons.2 ⟨sT,List.forall_mem_cons.2 ⟨sU,List.forall_mem_cons.2 ⟨sV,List.forall_mem_cons.2 ⟨sW,List.forall_mem_cons.2 ⟨sX,List.forall_mem_cons.2 ⟨sY,List.forall_mem_cons.2 ⟨sZ,List.forall_mem_cons.2 ⟨s8,List.forall_mem_cons.2 ⟨s9,List.forall_mem_cons.2 ⟨ta,List.forall_mem_cons.2 ⟨tb,List.forall_mem_cons.2 ⟨tc,List.forall_mem_cons.2 ⟨td,List.forall_mem_cons.2 ⟨tg,List.forall_mem_cons.2 ⟨th,List.forall_mem_cons.2 ⟨tj,List.forall_mem_cons.2 ⟨tk,List.forall_mem_cons.2 ⟨tl,List.forall_mem_cons.2 ⟨tn,List.forall_mem_cons.2 ⟨tp,List.forall_mem_cons.2 ⟨ry,List.forall_mem_cons.2 ⟨rz,List.forall_mem_cons.2 ⟨rA,List.forall_mem_cons.2 ⟨rB,List.forall_mem_cons.2 ⟨rC,List.forall_mem_cons.2 ⟨rD,List.forall_mem_cons.2 ⟨rE,List.forall_mem_cons.2 ⟨rF,List.forall_mem_cons.2 ⟨rG,List.forall_mem_cons.2 ⟨rH,List.forall_mem_cons.2 ⟨rI,List.forall_mem_cons.2 ⟨rJ,List.forall_mem_cons.2 ⟨rK,List.forall_mem_cons.2 ⟨rL,List.forall_mem_nil _⟩⟩⟩⟩⟩⟩⟩⟩⟩⟩⟩⟩⟩⟩⟩⟩⟩⟩⟩⟩⟩⟩⟩⟩⟩⟩⟩⟩⟩⟩⟩⟩⟩⟩⟩⟩⟩⟩⟩⟩⟩⟩⟩⟩⟩⟩⟩⟩⟩⟩⟩
theorem aQ : cU Try.prog ti:=fun T t h=>tq (T,t) (mb h)
end Go.Proofs.Ythjamlponejffaa
namespace Go.Proofs.Ythjamlponejffaa
set_option linter.unusedVariables false
set_option linter.unusedSimpArgs false
open Go.RowKit
structure Nm (hp0 : Hp) (ν : Nat → Nat) : Prop where
 inj : ∀ i j,ν i = ν j → i = j
 out : ∀ i,hp0 (ν i) = none
noncomputable def hpL (hp0 : Hp) (ν : Nat → Nat) (L : List Ent) : Hp:=fun x=>@dite _ (∃ i,x = ν i) (Classical.propDecidable _) (fun h=>L[Classical.choose h]?) (fun _=>hp0 x)
section
variable {hp0 : Hp} {ν : Nat → Nat} {L : List Ent}
theorem ah (hN : Nm hp0 ν) (i : Nat) : hpL hp0 ν L (ν i) = L[i]?:=by
 have h : ∃ j,ν i = ν j:=⟨i,rfl⟩
 unfold hpL
 rw [dif_pos h,hN.inj _ _ (Classical.choose_spec h).symm]
theorem co {x : Nat} (h : ∀ i,x ≠ ν i) : hpL hp0 ν L x = hp0 x:=by
 unfold hpL
 rw [dif_neg fun ⟨i,e⟩=>h i e]
theorem mS (hN : Nm hp0 ν) : hpL hp0 ν [] = hp0:=by
 funext x
 by_cases h : ∃ i,x = ν i
 · obtain ⟨i,rfl⟩:=h
   rw [ah hN,hN.out];rfl
 · exact co fun i e=>h ⟨i,e⟩
theorem ak (hN : Nm hp0 ν) {i : Nat} (hi : i < L.length) (e : Ent) : upd (hpL hp0 ν L) (ν i) (some e) = hpL hp0 ν (L.set i e):=by
 funext x
 by_cases h : ∃ j,x = ν j
 · obtain ⟨j,rfl⟩:=h
   rw [ah hN,List.getElem?_set]
   by_cases hij : i = j
   · subst hij;rw [aP,if_pos rfl,if_pos hi]
   · rw [if_neg hij,bR fun e=>hij (hN.inj _ _ e).symm,ah hN]
 · have h' : ∀ j,x ≠ ν j:=fun j e=>h ⟨j,e⟩
   rw [co h',bR (h' i),co h']
theorem qw (hN : Nm hp0 ν) (e : Ent) : upd (hpL hp0 ν L) (ν L.length) (some e) = hpL hp0 ν (L ++ [e]):=by
 funext x
 by_cases h : ∃ j,x = ν j
 · obtain ⟨j,rfl⟩:=h
   rw [ah hN]
   by_cases hij : j = L.length
   · subst hij;rw [aP];simp
   · rw [bR fun e=>hij (hN.inj _ _ e),ah hN]
     rcases Nat.lt_or_ge j L.length with h|h
     · rw [List.getElem?_append_left h]
     · rw [List.getElem?_eq_none h,List.getElem?_eq_none (by simp;omega)]
 · have h' : ∀ j,x ≠ ν j:=fun j e=>h ⟨j,e⟩
   rw [co h',bR (h' _),co h']
theorem qx (hN : Nm hp0 ν) : hpL hp0 ν L (ν L.length) = none:=by
 rw [ah hN];simp
def nmL (ν : Nat → Nat) (n : Nat) : List Ent → List Nat
 | [] => []
 | _ :: es => ν n :: nmL ν (n + 1) es
def FN (hp0 : Hp) (ν : Nat → Nat) : List Ent → Hp → (Hp → List Nat → Prop) → Prop
 | [], hp, k => k hp []
 | e :: es, hp, k => ∃ L, hp = hpL hp0 ν L ∧ k (hpL hp0 ν (L ++ e :: es)) (nmL ν L.length (e :: es))
theorem rM (hN : Nm hp0 ν) : ∀ (es L : List Ent) (acc : List Nat) (k : Hp → List Nat → Prop),k (hpL hp0 ν (L ++ es)) (acc ++ nmL ν L.length es) → FA es (hpL hp0 ν L) acc k:=by
 intro es
 induction es with
 | nil => intro L acc k h; simpa [FA, nmL] using h
 | cons e es ih =>
   intro L acc k h
   refine ⟨ν L.length,qx hN,?_⟩
   rw [qw hN]
   refine ih _ _ _ ?_
   simpa [nmL] using h
theorem mT (hN : Nm hp0 ν) {es : List Ent} {hp : Hp} {k : Hp → List Nat → Prop} (h : FN hp0 ν es hp k) : FA es hp [] k:=by
 cases es with
 | nil => exact h
 | cons e es =>
   obtain ⟨L,rfl,h⟩:=h
   exact rM hN _ _ _ _ h
end
theorem tr {hp0 : Hp} (h : g6 hp0) : ∃ ν,Nm hp0 ν:=by
 obtain ⟨b,hb⟩:=h
 exact ⟨fun i=>b + i,fun i j e=>Nat.add_left_cancel e,fun i=>hb _ (by omega)⟩
def tmL (l : List (Nat × AV)) : Nat → AV:=fun t=>match l.lookup t with
 | some a => a
 | none => .any
theorem mU (t : Nat) : tmL [] t = .any:=rfl
theorem gn (t : Nat) (a : AV) (l : List (Nat × AV)) : tmL ((t,a) :: l) t = a:=by
 unfold tmL;rw [List.lookup_cons,beq_self_eq_true]
theorem kc {s t : Nat} (h : s ≠ t) (a : AV) (l : List (Nat × AV)) : tmL ((t,a) :: l) s = tmL l s:=by
 unfold tmL;rw [List.lookup_cons,beq_eq_false_iff_ne.2 h]
theorem ax (s t : Nat) (a : AV) (l : List (Nat × AV)) : tmL ((s,a) :: l) t = if t = s then a else tmL l t:=by
 by_cases h : t = s
 · subst h;rw [gn,if_pos rfl]
 · rw [kc h,if_neg h]
theorem dt (l : List (Nat × AV)) (t : Nat) (a : AV) : upd (tmL l) t a = tmL ((t,a) :: l):=by
 funext s
 by_cases h : s = t
 · subst h;rw [aP,gn]
 · rw [bR h,kc h]
def cG (n : Nat) : List AV → List (Nat × AV)
 | [] => []
 | a :: l => (n, a) :: cG (n + 1) l
theorem oY : ∀ (args : List AV) (n : Nat),tmL (cG n args) = fun t=>if n ≤ t then args.getD (t - n) .any else .any:=by
 intro args
 induction args with
 | nil => intro n; funext t; rw [cG, mU]; simp
 | cons a l ih =>
   intro n;funext t
   rw [cG]
   by_cases h : t = n
   · subst h;rw [gn];simp
   · rw [kc h,ih]
     by_cases h2 : n + 1 ≤ t
     · obtain ⟨d,rfl⟩ : ∃ d,t = n + 1 + d:=⟨t - (n + 1),by omega⟩
       show (if _ then _ else _) = _
       rw [if_pos h2,if_pos (by omega)]
       have e1 : n + 1 + d - (n + 1) = d:=by omega
       have e2 : n + 1 + d - n = d + 1:=by omega
       rw [e1,e2,List.getD_cons_succ]
     · show (if _ then _ else _) = _
       rw [if_neg h2,if_neg (by omega)]
theorem kR (args : List AV) : l7 args = tmL (cG 0 args):=by
 rw [oY];funext t;simp [l7]
structure Bs (hB hp0 : Hp) (ν : Nat → Nat) (k : Nat) : Prop where
 ext : ∀ x e,hp0 x = some e → e.kind = 3
 out : ∀ x,(∀ i,x ≠ ν i) → hB x = hp0 x
 inn : ∀ i,k ≤ i → hB (ν i) = none
 own : ∀ i e,hB (ν i) = some e → e.kind < 2
theorem Bs.base {hp0 : Hp} {ν : Nat → Nat} (hX : Ext hp0) (hN : Nm hp0 ν) : Bs hp0 hp0 ν 0:=⟨hX,fun _ _=>rfl,fun i _=>hN.out i,fun i e h=>by rw [hN.out] at h;cases h⟩
section
variable {P : Program} {ti : TI} {N : Nat} {hp0 : Hp} {ν : Nat → Nat} {ops : Array Oper}
def aws (P : Program) (ti : TI) (hp0 : Hp) (ν : Nat → Nat) (ops : Array Oper) : List Oper → ((Nat → AV) → Hp → Prop) → (Nat → AV) → Hp → Prop
 | [], K, tm, hp => K tm hp
 | o :: l, K, tm, hp =>
   match o.guard with
   | none => eG P ti o.op (evT tm) hp fun E => FN hp0 ν E.nw (aI hp E.up) fun hp' ns => aws P ti hp0 ν ops l K (cx tm o.dst (E.val ns)) hp'
   | some (j, want) => match (ops[j]?).bind (·.dst) with
     | none => False
     | some d => match tm d with
       | .c (.bool t) => (t = want → eG P ti o.op (evT tm) hp fun E => FN hp0 ν E.nw (aI hp E.up) fun hp' ns => aws P ti hp0 ν ops l K (cx tm o.dst (E.val ns)) hp') ∧
          (t ≠ want → aws P ti hp0 ν ops l K (cx tm o.dst (.k undef)) hp)
       | .k v => v = undef ∧ aws P ti hp0 ν ops l K (cx tm o.dst (.k undef)) hp
       | _ => False
theorem ia {es : List Ent} {hp : Hp} {k k' : Hp → List Nat → Prop} (h : FN hp0 ν es hp k) (hk : ∀ hp ns,k hp ns → k' hp ns) : FN hp0 ν es hp k':=by
 cases es with
 | nil => exact hk _ _ h
 | cons e es => obtain ⟨L, h1, h2⟩ := h; exact ⟨L, h1, hk _ _ h2⟩
theorem fF {o : Op} {ev : Operand → AV} {hp : Hp} {k k' : Eff → Prop} (h : eG P ti o ev hp k) (hk : ∀ E,k E → k' E) : eG P ti o ev hp k':=by
 unfold eG at h ⊢
 split at h
 · obtain ⟨E,h1,h2⟩:=h;exact ⟨E,h1,hk _ h2⟩
 · split at h
   · exact ⟨h.1,hk _ h.2⟩
   · exact h
theorem rN (hN : Nm hp0 ν) {K : (Nat → AV) → Hp → Prop} : ∀ (l : List Oper) (acc : List Foot) (tm : Nat → AV) (hp : Hp),aws P ti hp0 ν ops l K tm hp → d9 P ti ops l (fun _ tm hp=>K tm hp) acc tm hp:=by
 intro l
 induction l with
 | nil => intro acc tm hp h; exact h
 | cons o l ih =>
   intro acc tm hp h
   simp only [aws] at h
   simp only [d9]
   split at h
   · rename_i hg;rw [hg]
     exact fF h fun E h=>mT hN (ia h fun hp ns h=>ih _ _ _ h)
   · rename_i j want hg;rw [hg]
     split at h
     · exact h.elim
     · rename_i d hd;simp only [hd]
       split at h
       · rename_i t ht;simp only [ht]
         exact ⟨fun e=>fF (h.1 e) fun E h=>mT hN (ia h fun hp ns h=>ih _ _ _ h),fun e=>ih _ _ _ (h.2 e)⟩
       · rename_i v ht;simp only [ht]
         exact ⟨h.1,ih _ _ _ h.2⟩
       · exact h.elim
theorem tt {K : (Nat → AV) → Hp → Prop} {tm : Nat → AV} {hp : Hp} (h : K tm hp) : aws P ti hp0 ν ops [] K tm hp:=h
theorem tu {o : Oper} {l : List Oper} {K : (Nat → AV) → Hp → Prop} {tm : Nat → AV} {hp : Hp} {j d : Nat} {want : Bool} (hg : o.guard = some (j,want)) (hd : (ops[j]?).bind (·.dst) = some d) (ht : tm d = .c (.bool want))
  (h : aws P ti hp0 ν ops ({ o with guard:=none } :: l) K tm hp) : aws P ti hp0 ν ops (o :: l) K tm hp:=by
 simp only [aws,hg,hd,ht,forall_const,ne_eq,not_true_eq_false,false_imp_iff,and_true] at h ⊢
 exact h
theorem rO {o : Oper} {l : List Oper} {K : (Nat → AV) → Hp → Prop} {tm : Nat → AV} {hp : Hp} {j d : Nat} {want : Bool} (hg : o.guard = some (j,want)) (hd : (ops[j]?).bind (·.dst) = some d) (ht : tm d = .c (.bool (!want)))
  (h : aws P ti hp0 ν ops l K (cx tm o.dst (.k undef)) hp) : aws P ti hp0 ν ops (o :: l) K tm hp:=by
 simp only [aws,hg,hd,ht]
 exact ⟨fun e=>absurd e (by cases want <;> simp),fun _=>h⟩
theorem gp {α : Type} (f : Nat → α) (t : Nat) (v : α) (h : f t = v) : upd f t v = f:=by
 funext s
 by_cases e : s = t
 · subst e;rw [aP,h]
 · rw [bR e]
theorem qy {o : Oper} {l : List Oper} {K : (Nat → AV) → Hp → Prop} {tm : Nat → AV} {hp : Hp} {j d : Nat} {want t : Bool} (hg : o.guard = some (j,want)) (hd : (ops[j]?).bind (·.dst) = some d) (ht : tm d = .c (.bool t))
  (h1 : t = true → aws P ti hp0 ν ops (o :: l) K (upd tm d (.c (.bool true))) hp) (h2 : t = false → aws P ti hp0 ν ops (o :: l) K (upd tm d (.c (.bool false))) hp) : aws P ti hp0 ν ops (o :: l) K tm hp:=by
 cases t with
 | true => rw [gp _ _ _ ht] at h1; exact h1 rfl
 | false => rw [gp _ _ _ ht] at h2; exact h2 rfl
def awd (P : Program) (ti : TI) (hp0 : Hp) (ν : Nat → Nat) (ops : Array Oper) : List Oper → (List Foot → (Nat → AV) → Hp → Prop) → List Foot → (Nat → AV) → Hp → Prop
 | [], K, acc, tm, hp => K acc tm hp
 | o :: l, K, acc, tm, hp =>
   match o.guard with
   | none => eG P ti o.op (evT tm) hp fun E => FN hp0 ν E.nw (aI hp E.up) fun hp' ns => awd P ti hp0 ν ops l K (acc ++ [⟨rdN o.op (evT tm), E.up.map (·.1), ns⟩]) (cx tm o.dst (E.val ns)) hp'
   | some (j, want) => match (ops[j]?).bind (·.dst) with
     | none => False
     | some d => match tm d with
       | .c (.bool t) => (t = want → eG P ti o.op (evT tm) hp fun E => FN hp0 ν E.nw (aI hp E.up) fun hp' ns => awd P ti hp0 ν ops l K (acc ++ [⟨rdN o.op (evT tm), E.up.map (·.1), ns⟩]) (cx tm o.dst (E.val ns)) hp') ∧
          (t ≠ want → awd P ti hp0 ν ops l K (acc ++ [⟨[],[],[]⟩]) (cx tm o.dst (.k undef)) hp)
       | .k v => v = undef ∧ awd P ti hp0 ν ops l K (acc ++ [⟨[], [], []⟩]) (cx tm o.dst (.k undef)) hp
       | _ => False
theorem rP (hN : Nm hp0 ν) {K : List Foot → (Nat → AV) → Hp → Prop} : ∀ (l : List Oper) (acc : List Foot) (tm : Nat → AV) (hp : Hp),awd P ti hp0 ν ops l K acc tm hp → d9 P ti ops l K acc tm hp:=by
 intro l
 induction l with
 | nil => intro acc tm hp h; exact h
 | cons o l ih =>
   intro acc tm hp h
   simp only [awd] at h
   simp only [d9]
   split at h
   · rename_i hg;rw [hg]
     exact fF h fun E h=>mT hN (ia h fun hp ns h=>ih _ _ _ h)
   · rename_i j want hg;rw [hg]
     split at h
     · exact h.elim
     · rename_i d hd;simp only [hd]
       split at h
       · rename_i t ht;simp only [ht]
         exact ⟨fun e=>fF (h.1 e) fun E h=>mT hN (ia h fun hp ns h=>ih _ _ _ h),fun e=>ih _ _ _ (h.2 e)⟩
       · rename_i v ht;simp only [ht]
         exact ⟨h.1,ih _ _ _ h.2⟩
       · exact h.elim
theorem tv {o : Oper} {l : List Oper} {K : List Foot → (Nat → AV) → Hp → Prop} {acc : List Foot} {tm : Nat → AV} {hp : Hp} {j d : Nat} {want : Bool} (hg : o.guard = some (j,want)) (hd : (ops[j]?).bind (·.dst) = some d) (ht : tm d = .c (.bool want))
  (h : awd P ti hp0 ν ops ({ o with guard:=none } :: l) K acc tm hp) : awd P ti hp0 ν ops (o :: l) K acc tm hp:=by
 simp only [awd,hg,hd,ht,forall_const,ne_eq,not_true_eq_false,false_imp_iff,and_true] at h ⊢
 exact h
theorem rQ {o : Oper} {l : List Oper} {K : List Foot → (Nat → AV) → Hp → Prop} {acc : List Foot} {tm : Nat → AV} {hp : Hp} {j d : Nat} {want : Bool} (hg : o.guard = some (j,want)) (hd : (ops[j]?).bind (·.dst) = some d) (ht : tm d = .c (.bool (!want)))
  (h : awd P ti hp0 ν ops l K (acc ++ [⟨[],[],[]⟩]) (cx tm o.dst (.k undef)) hp) : awd P ti hp0 ν ops (o :: l) K acc tm hp:=by
 simp only [awd,hg,hd,ht]
 exact ⟨fun e=>absurd e (by cases want <;> simp),fun _=>h⟩
theorem qz {o : Oper} {l : List Oper} {K : List Foot → (Nat → AV) → Hp → Prop} {acc : List Foot} {tm : Nat → AV} {hp : Hp} {j d : Nat} {want t : Bool} (hg : o.guard = some (j,want)) (hd : (ops[j]?).bind (·.dst) = some d) (ht : tm d = .c (.bool t))
  (h1 : t = true → awd P ti hp0 ν ops (o :: l) K acc (upd tm d (.c (.bool true))) hp) (h2 : t = false → awd P ti hp0 ν ops (o :: l) K acc (upd tm d (.c (.bool false))) hp) : awd P ti hp0 ν ops (o :: l) K acc tm hp:=by
 cases t with
 | true => rw [gp _ _ _ ht] at h1; exact h1 rfl
 | false => rw [gp _ _ _ ht] at h2; exact h2 rfl
inductive Fr where
 | sq (y : Code)
 | bk (id : Nat)
 | k (K : (Nat → AV) → Hp → Prop)
def Nx (P : Program) (N : Nat) (hB : Hp) : List Fr → ff → ff
 | [], Q => Q
 | .sq y :: S, Q => ql (Aw P N hB y (Nx P N hB S Q)) (Nx P N hB S Q)
 | .bk id :: S, Q => oR id (Nx P N hB S Q)
 | .k K :: S, Q => ql K (Nx P N hB S Q)
variable {hB : Hp} {S : List Fr} {Q : ff} {tm : Nat → AV} {hp : Hp}
theorem uI {y : Code} (h : Aw P N hB y (Nx P N hB S Q) tm hp) : Nx P N hB (.sq y :: S) Q .normal tm hp:=h
theorem uJ {id : Nat} (h : Nx P N hB S Q .normal tm hp) : Nx P N hB (.bk id :: S) Q .normal tm hp:=h
theorem n_k {K : (Nat → AV) → Hp → Prop} (h : K tm hp) : Nx P N hB (.k K :: S) Q .normal tm hp:=h
theorem tw {y : Code} {i : Nat} (h : Nx P N hB S Q (.exit i) tm hp) : Nx P N hB (.sq y :: S) Q (.exit i) tm hp:=h
theorem uK {K : (Nat → AV) → Hp → Prop} {i : Nat} (h : Nx P N hB S Q (.exit i) tm hp) : Nx P N hB (.k K :: S) Q (.exit i) tm hp:=h
theorem tx {i : Nat} (h : Nx P N hB S Q .normal tm hp) : Nx P N hB (.bk i :: S) Q (.exit i) tm hp:=by
 show (if i = i then _ else _);rw [if_pos rfl];exact h
theorem aZ {i id : Nat} (hne : (i == id) = false) (h : Nx P N hB S Q (.exit i) tm hp) : Nx P N hB (.bk id :: S) Q (.exit i) tm hp:=by
 show (if i = id then _ else _);rw [if_neg (by simpa using hne)];exact h
theorem tz {y : Code} (h : Nx P N hB S Q .ret tm hp) : Nx P N hB (.sq y :: S) Q .ret tm hp:=h
theorem uL {K : (Nat → AV) → Hp → Prop} (h : Nx P N hB S Q .ret tm hp) : Nx P N hB (.k K :: S) Q .ret tm hp:=h
theorem tA {id : Nat} (h : Nx P N hB S Q .ret tm hp) : Nx P N hB (.bk id :: S) Q .ret tm hp:=h
theorem tB {e : Exit} (h : Q e tm hp) : Nx P N hB [] Q e tm hp:=h
theorem tC {x y : Code} (h : Aw P N hB x (Nx P N hB (.sq y :: S) Q) tm hp) : Aw P N hB (.seq x y) (Nx P N hB S Q) tm hp :=
 rv fun K hK=>h.mono fun e tm hp h=>by cases e <;> first|exact hK _ _ h|exact h
theorem qA {id : Nat} {c : Code} (h : Aw P N hB c (Nx P N hB (.bk id :: S) Q) tm hp) : Aw P N hB (.block id c) (Nx P N hB S Q) tm hp:=oT h
theorem rR (h : Nx P N hB S Q .normal tm hp) : Aw P N hB .skip (Nx P N hB S Q) tm hp:=qm h
theorem qB {l : Nat} (h : Nx P N hB S Q .normal tm hp) : Aw P N hB (.label l) (Nx P N hB S Q) tm hp:=oS h
theorem rS {id : Nat} (h : Nx P N hB S Q (.exit id) tm hp) : Aw P N hB (.exit id) (Nx P N hB S Q) tm hp:=qp h
theorem tD (h : Nx P N hB S Q .ret tm hp) : Aw P N hB .ret (Nx P N hB S Q) tm hp:=ru h
theorem uM {c : Operand} {x y : Code} (hc : evT tm c = .c (.bool true)) (h : Aw P N hB x (Nx P N hB S Q) tm hp) : Aw P N hB (.cond c x y) (Nx P N hB S Q) tm hp :=
 j8 hc (fun _=>h) (fun e=>by cases e)
theorem uN {c : Operand} {x y : Code} (hc : evT tm c = .c (.bool false)) (h : Aw P N hB y (Nx P N hB S Q) tm hp) : Aw P N hB (.cond c x y) (Nx P N hB S Q) tm hp :=
 j8 hc (fun e=>by cases e) (fun _=>h)
theorem uO {c : Operand} {x y : Code} {b : Bool} (hc : evT tm c = .c (.bool b)) (h1 : b = true → Aw P N hB x (Nx P N hB S Q) tm hp) (h2 : b = false → Aw P N hB y (Nx P N hB S Q) tm hp) : Aw P N hB (.cond c x y) (Nx P N hB S Q) tm hp :=
 j8 hc h1 h2
theorem tE {id : Nat} {l : List Oper} {draw : Bool} (hT : cU P ti) (hN : Nm hp0 ν) (hd : draw = false) (hs : gl N l.toArray = true) (h : aws P ti hp0 ν l.toArray l (Nx P N hB S Q .normal) tm hp) : Aw P N hB (.region id l.toArray draw) (Nx P N hB S Q) tm hp :=
 nF hT hd hs (rN hN _ _ _ _ h)
theorem rT {id : Nat} {l : List Oper} {draw : Bool} (hT : cU P ti) (hN : Nm hp0 ν) (hm : P.follows .mixedOrders = true) (hd : draw = true) (hs : gl N l.toArray = true) (hst : oP l.toArray = true) (ps : List (Nat × Nat)) (hps : gU l.toArray = ps)
  (h : awd P ti hp0 ν l.toArray l (fun acc tm hp=>l5 ps acc ∧ Nx P N hB S Q .normal tm hp) [] tm hp) : Aw P N hB (.region id l.toArray draw) (Nx P N hB S Q) tm hp :=
 qt hT hm hd hs hst ps hps (rP hN _ _ _ _ h)
theorem cf {X : Type} (st : X → (Nat → AV) × Hp) (Inv : X → Prop) (μ : X → Nat) {c : Code} (h0 : ∃ x,Inv x ∧ Le hB tm hp (st x).1 (st x).2)
  (hr : ∀ x,Inv x → Aw P N hB c (Nx P N hB (.k (fun tm2 hp2=>∃ y,(Inv y ∧ μ y < μ x) ∧ Le hB tm2 hp2 (st y).1 (st y).2) :: S) Q) (st x).1 (st x).2) : Aw P N hB (.loop c) (Nx P N hB S Q) tm hp :=
 qq st Inv μ h0 fun x hx=>(hr x hx).mono fun e tm hp h=>by
  cases e with
  | normal => obtain ⟨y, ⟨h1, h2⟩, h3⟩ := h; exact ⟨y, h1, h2, h3⟩
  | _ => exact h
theorem bA (hT : cU P ti) {f : FuncId} {fn : Func} {c : Code} {args : List AV} {nw : List Ent} {val : List Nat → AV} (hf : P.funcs[f]? = some fn) (hb : fn.body = some c) (hname : (fn.name == "runtime.NumGoroutine") = false) (hN : args.length.ble fn.ntmps = true)
  (h : ∀ hp0 ν,Bs hp0 hp0 ν 0 → Nm hp0 ν → Aw P fn.ntmps hp0 c (Nx P fn.ntmps hp0 [] (nG ti fn hp0 nw val)) (tmL (cG 0 args)) (hpL hp0 ν [])) : ap P f args nw val :=
 nH hT hf hb hname (Nat.le_of_ble_eq_true hN) fun hp0 hX lo w0 φ0 a w hC=>by
  obtain ⟨ν,hN⟩:=tr (hp0:=hp0) (by
   obtain ⟨φ,H,_⟩:=hC;exact H.fin)
  have:=h hp0 ν (Bs.base hX hN) hN
  rw [mS hN,← kR] at this
  exact this lo w0 φ0 a w hC
end
end Go.Proofs.Ythjamlponejffaa
namespace Go.Proofs.Ythjamlponejffaa
set_option linter.unusedVariables false
set_option linter.unusedSimpArgs false
open Go.RowKit
def sw : List (Nat × Nat) → Nat → Nat
 | [], i => i
 | (a, b) :: l, i => let j := sw l i; if j = a then b else if j = b then a else j
theorem rU : ∀ (s : List (Nat × Nat)) (i j : Nat),sw s i = sw s j → i = j:=by
 intro s
 induction s with
 | nil => intro i j h; exact h
 | cons p s ih =>
   obtain ⟨a,b⟩:=p
   intro i j h
   refine ih _ _ ?_
   simp only [sw] at h
   repeat' split at h
   all_goals omega
noncomputable def rho (ν : Nat → Nat) (s : List (Nat × Nat)) : Nat → Nat:=fun x=>@dite _ (∃ i,x = ν i) (Classical.propDecidable _) (fun h=>ν (sw s (Classical.choose h))) (fun _=>x)
section
variable {hB hp0 : Hp} {ν : Nat → Nat} {s : List (Nat × Nat)} {L L' : List Ent}
theorem di (hN : Nm hp0 ν) (i : Nat) : rho ν s (ν i) = ν (sw s i):=by
 have h : ∃ j,ν i = ν j:=⟨i,rfl⟩
 unfold rho
 rw [dif_pos h,hN.inj _ _ (Classical.choose_spec h).symm]
theorem ec {x : Nat} (h : ∀ i,x ≠ ν i) : rho ν s x = x:=by
 unfold rho;rw [dif_neg fun ⟨i,e⟩=>h i e]
theorem ib (hN : Nm hp0 ν) (x y : Nat) (h : rho ν s x = rho ν s y) : x = y:=by
 by_cases h1 : ∃ i,x = ν i <;> by_cases h2 : ∃ i,y = ν i
 · obtain ⟨i,rfl⟩:=h1;obtain ⟨j,rfl⟩:=h2
   rw [di hN,di hN] at h
   rw [rU s _ _ (hN.inj _ _ h)]
 · obtain ⟨i,rfl⟩:=h1
   rw [di hN,ec fun j e=>h2 ⟨j,e⟩] at h
   exact absurd ⟨_,h.symm⟩ h2
 · obtain ⟨i,rfl⟩:=h2
   rw [di hN,ec fun j e=>h1 ⟨j,e⟩] at h
   exact absurd ⟨_,h⟩ h1
 · rwa [ec fun j e=>h1 ⟨j,e⟩,ec fun j e=>h2 ⟨j,e⟩] at h
theorem nM (ν : Nat → Nat) (n : Nat) : ∃ b,∀ i,i < n → ν i < b:=by
 induction n with
 | zero => exact ⟨0, fun i h => by omega⟩
 | succ n ih =>
   obtain ⟨b,hb⟩:=ih
   refine ⟨max b (ν n + 1),fun i h=>?_⟩
   rcases Nat.lt_or_ge i n with h'|h'
   · have:=hb i h';omega
   · have : i = n:=by omega
     subst this;omega
theorem ic (hN : Nm hp0 ν) (h : g6 (hpL hp0 ν L)) : g6 (hpL hp0 ν L'):=by
 obtain ⟨b,hb⟩:=h
 obtain ⟨b',hb'⟩:=nM ν L'.length
 refine ⟨max b b',fun x hx=>?_⟩
 by_cases h1 : ∃ i,x = ν i
 · obtain ⟨i,rfl⟩:=h1
   rw [ah hN]
   refine List.getElem?_eq_none ?_
   rcases Nat.lt_or_ge i L'.length with h'|h'
   · have:=hb' i h';omega
   · exact h'
 · have:=hb x (by omega)
   rw [co fun i e=>h1 ⟨i,e⟩] at this ⊢
   exact this
abbrev LV (hp0 : Hp) (ν : Nat → Nat) (s : List (Nat × Nat)) (L L' : List Ent) : AV → AV → Prop:=LeV (hpL hp0 ν L) (hpL hp0 ν L') (rho ν s)
inductive LVs (hp0 : Hp) (ν : Nat → Nat) (s : List (Nat × Nat)) (L L' : List Ent) : List AV → List AV → Prop where
 | nil : LVs hp0 ν s L L' [] []
 | cons {a b : AV} {l m : List AV} (h : LV hp0 ν s L L' a b) (t : LVs hp0 ν s L L' l m) : LVs hp0 ν s L L' (a :: l) (b :: m)
theorem LVs.at {l m : List AV} (h : LVs hp0 ν s L L' l m) : m.length = l.length ∧ ∀ i,i < l.length → LV hp0 ν s L L' (l.getD i .any) (m.getD i .any):=by
 induction h with
 | nil => exact ⟨rfl, fun i h => by simp at h⟩
 | cons h t ih =>
   refine ⟨by simp [ih.1],fun i hi=>?_⟩
   cases i with
   | zero => exact h
   | succ i => exact ih.2 i (by simpa using hi)
theorem rV (a : AV) : LV hp0 ν s L L' a .any:=.any a
theorem uP (c : C) : LV hp0 ν s L L' (.c c) (.c c):=.rd (.refl c)
theorem aT {c c' : C} (h : c = c') : LV hp0 ν s L L' (.c c) (.c c'):=by subst h;exact .rd (.refl c)
theorem uQ (v : Value) : LV hp0 ν s L L' (.k v) (.k v):=.k v
theorem tF (wd : Nat) (f : Nat → C) : LV hp0 ν s L L' (.el wd f) (.el wd f):=.el wd f
theorem aU (hN : Nm hp0 ν) (i : Nat) {j : Nat} {e : Ent} (hj : sw s i = j) (h : L'[i]? = some e) (hk : (e.kind == 1 || e.kind == 2) = true) : LV hp0 ν s L L' (.sl (ν j)) (.sl (ν i)):=by
 subst hj
 rw [← di (s:=s) hN]
 refine .sl (by rw [ah hN];exact h) ?_
 simp at hk;omega
theorem aV (hN : Nm hp0 ν) (i : Nat) {j off : Nat} {e : Ent} (hj : sw s i = j) (h : L'[i]? = some e) (hk : (e.kind == 0 || e.kind == 2) = true) : LV hp0 ν s L L' (.ad (ν j) off) (.ad (ν i) off):=by
 subst hj
 rw [← di (s:=s) hN]
 refine .ad (by rw [ah hN];exact h) ?_
 simp at hk;omega
theorem aW (hN : Nm hp0 ν) (i : Nat) {j : Nat} {T : TypeId} {nn : Fl} {c c' : C} (hj : sw s i = j) (h : L[j]? = some (.arr T nn c)) (h' : L'[i]? = none ∨ L'[i]? = some .dead) (hr : en (if nn.nn then .nn c else c) c') : LV hp0 ν s L L' (.sl (ν j)) (.c c'):=by
 refine .fz (by rw [ah hN];exact h) (fun y hy=>?_) hr
 subst hj
 rw [← di (s:=s) hN] at hy
 have:=ib hN _ _ hy
 subst this
 rw [ah hN];exact h'
theorem ay (hN : Nm hp0 ν) (i : Nat) {T : TypeId} {c : C} (h : L[sw s i]? = none) (h' : L'[i]? = some (.arr T .may c)) : LV hp0 ν s L L' (.c .nul) (.sl (ν i)) :=
 .nul (by rw [di hN,ah hN];exact h) (by rw [ah hN];exact h')
theorem rW {l m : List AV} (h : LVs hp0 ν s L L' l m) : LV hp0 ν s L L' (.agg l) (.agg m):=.agg h.at.1 h.at.2
theorem tG {f : Fn} {l m : List AV} (h : LVs hp0 ν s L L' l m) : LV hp0 ν s L L' (.fn f l) (.fn f m):=.fn h.at.1 h.at.2
abbrev LE (hp0 : Hp) (ν : Nat → Nat) (s : List (Nat × Nat)) (L L' : List Ent) (i : Nat) : Ent → Prop:=LeE (hpL hp0 ν L) (hpL hp0 ν L') (rho ν s) (ν i)
theorem az (hN : Nm hp0 ν) (i : Nat) {j : Nat} {l : List AV} {cs : List C} (hj : sw s i = j) (h : L[j]? = some (.box l)) (hl : l = cs.map .c) (h' : L'[i]? = none ∨ L'[i]? = some .dead) : LV hp0 ν s L L' (.ad (ν j) 0) (.el cs.length fun j=>cs.getD j .nul):=by
 subst hl
 have:=LeV.fzb (hp:=hpL hp0 ν L) (hp':=hpL hp0 ν L') (ρ:=rho ν s) (ν:=ν j) (l:=cs.map .c) (f:=fun j=>cs.getD j .nul) (by rw [ah hN];exact h) (fun j hj=>⟨cs.getD j .nul,by
  have hj' : j < cs.length:=by simpa using hj
  simp [List.getD_eq_getElem?_getD,hj'],.refl _⟩) (fun y hy=>by
  subst hj
  rw [← di (s:=s) hN] at hy
  have:=ib hN _ _ hy
  subst this
  rw [ah hN];exact h')
 rwa [List.length_map] at this
theorem qC (i : Nat) : LE hp0 ν s L L' i .dead:=trivial
theorem aA (hN : Nm hp0 ν) {i : Nat} {l l' : List AV} (h : L[sw s i]? = some (.box l)) (hl : LVs hp0 ν s L L' l l') : LE hp0 ν s L L' i (.box l') :=
 ⟨l,by rw [di hN,ah hN];exact h,hl.at.1,hl.at.2⟩
theorem oZ {nn nn' : Fl} (hn : ((!nn'.nn || nn.nn) && (!nn'.hd || nn.hd)) = true) : (nn'.nn = true → nn.nn = true) ∧ (nn'.hd = true → nn.hd = true):=by
 obtain ⟨a,b⟩:=nn;obtain ⟨c,d⟩:=nn'
 cases a <;> cases b <;> cases c <;> cases d <;> simp_all
theorem aB (hN : Nm hp0 ν) {i : Nat} {T : TypeId} {nn nn' : Fl} {c c' : C} (h : L[sw s i]? = some (.arr T nn c)) (hn : ((!nn'.nn || nn.nn) && (!nn'.hd || nn.hd)) = true) (hc : c' = c) : LE hp0 ν s L L' i (.arr T nn' c') :=
 .inl ⟨nn,c,by rw [di hN,ah hN];exact h,oZ hn,hc⟩
theorem aC (hN : Nm hp0 ν) {i : Nat} {T : TypeId} {c : C} {V : View} (h : L[sw s i]? = none) (hn : c.isNN = false) (hv : c.view = some V) (h0 : V.len = 0) : LE hp0 ν s L L' i (.arr T .may c) :=
 .inr ⟨by rw [di hN,ah hN];exact h,rfl,hn,V,hv,h0⟩
inductive LEs (hp0 : Hp) (ν : Nat → Nat) (s : List (Nat × Nat)) (L L' : List Ent) : Nat → List Ent → Prop where
 | nil (n : Nat) : LEs hp0 ν s L L' n []
 | cons {n : Nat} {e : Ent} {l : List Ent} (h : LE hp0 ν s L L' n e) (t : LEs hp0 ν s L L' (n + 1) l) : LEs hp0 ν s L L' n (e :: l)
theorem LEs.at {n : Nat} {l : List Ent} (h : LEs hp0 ν s L L' n l) : ∀ i e,l[i]? = some e → LE hp0 ν s L L' (n + i) e:=by
 induction h with
 | nil => intro i e h; simp at h
 | @cons n e l h t ih =>
   intro i e' he
   cases i with
   | zero => simp at he; subst he; exact h
   | succ i =>
     have:=ih i e' (by simpa using he)
     rwa [Nat.add_assoc,Nat.add_comm 1 i] at this
inductive LTs (hp0 : Hp) (ν : Nat → Nat) (s : List (Nat × Nat)) (L L' : List Ent) (tm : List (Nat × AV)) : List (Nat × AV) → Prop where
 | nil : LTs hp0 ν s L L' tm []
 | cons {t : Nat} {a b : AV} {l : List (Nat × AV)} (e : tm.lookup t = some a) (h : LV hp0 ν s L L' a b) (r : LTs hp0 ν s L L' tm l) : LTs hp0 ν s L L' tm ((t, b) :: l)
theorem LTs.at {tm l : List (Nat × AV)} (h : LTs hp0 ν s L L' tm l) (t : Nat) : LV hp0 ν s L L' (tmL tm t) (tmL l t):=by
 induction h with
 | nil => exact .any _
 | @cons t' a b l e h r ih =>
   by_cases h' : t = t'
   · subst h';rw [gn];unfold tmL;rw [e];exact h
   · rw [kc h'];exact ih
def leK (s : List (Nat × Nat)) (L' : List Ent) (k : Nat) : Bool:=(List.range k).all fun i=>sw s i == i && i.blt L'.length
theorem bE {k : Nat} (hX : Bs hB hp0 ν k) (hN : Nm hp0 ν) (s : List (Nat × Nat)) {tm l : List (Nat × AV)} (hE : LEs hp0 ν s L L' 0 L') (hT : LTs hp0 ν s L L' tm l) (hk : leK s L' k = true:=by rfl) : Le hB (tmL tm) (hpL hp0 ν L) (tmL l) (hpL hp0 ν L'):=by
 refine oX (rho ν s) (ib hN) (fun x e h=>?_) (ic hN) (fun x e h=>?_) (fun t=>hT.at t)
 · by_cases h1 : ∃ i,x = ν i
   · obtain ⟨i,rfl⟩:=h1
     have hik : i < k:=by
      rcases Nat.lt_or_ge i k with h'|h'
      · exact h'
      · rw [hX.inn i h'] at h;cases h
     have h2:=List.all_eq_true.1 hk i (List.mem_range.2 hik)
     simp only [Bool.and_eq_true,beq_iff_eq,Nat.blt_eq] at h2
     refine ⟨by rw [di hN,h2.1],L'[i]'h2.2,by rw [ah hN,List.getElem?_eq_getElem h2.2],fun _ e3=>?_⟩
     have:=hX.own i e h
     omega
   · have h2 : ∀ i,x ≠ ν i:=fun i e=>h1 ⟨i,e⟩
     rw [hX.out x h2] at h
     have h3:=hX.ext x e h
     refine ⟨ec h2,e,by rw [co h2];exact h,fun h4=>by omega⟩
 by_cases h1 : ∃ i,x = ν i
 · obtain ⟨i,rfl⟩:=h1
   rw [ah hN] at h
   have:=hE.at i e h
   rwa [Nat.zero_add] at this
 · have h2 : ∀ i,x ≠ ν i:=fun i e=>h1 ⟨i,e⟩
   rw [co h2] at h
   have h3:=hX.ext x e h
   cases e with
   | ext => show hpL hp0 ν L (rho ν s x) = _; rw [ec h2, co h2]; exact h
   | _ => simp [Ent.kind] at h3
theorem aq {hp : Hp} : g7 hp [] []:=⟨rfl,fun i h=>by simp at h⟩
theorem am {hp : Hp} {a b : AV} {l m : List AV} (h : ArgV hp a b) (t : g7 hp l m) : g7 hp (a :: l) (b :: m):=by
 refine ⟨by simp [t.1],fun i hi=>?_⟩
 cases i with
 | zero => exact h
 | succ i => exact t.2 i (by simpa using hi)
theorem bL {hp : Hp} (c : C) : ArgV hp (.c c) (.c c):=.rd (.refl c)
theorem aJ {hp : Hp} (c : C) : ArgV hp (.c (.nn c)) (.c c):=.rd (.unn c)
theorem aK {hp : Hp} {c : C} {V : View} (hv : c.view = some V) (h0 : V.len = 0) (hn : c.isNN = false) : ArgV hp (.c .nul) (.c c):=.rd (.nul hv h0 hn)
theorem bj (hN : Nm hp0 ν) {i : Nat} {T : TypeId} {nn : Fl} {c c' : C} (h : L[i]? = some (.arr T nn c)) (hr : en (if nn.nn then .nn c else c) c') : ArgV (hpL hp0 ν L) (.sl (ν i)) (.c c') :=
 .fz (by rw [ah hN];exact h) hr
theorem aR {hp : Hp} {l m : List AV} (h : g7 hp l m) : ArgV hp (.agg l) (.agg m):=.agg h.1 h.2
theorem bm {hp : Hp} {f : Fn} {l m : List AV} (h : g7 hp l m) : ArgV hp (.fn f l) (.fn f m):=.fn h.1 h.2
theorem bn {hp : Hp} (wd : Nat) (f : Nat → C) : ArgV hp (.el wd f) (.el wd f):=.el wd f
abbrev elA (cs : List C) : AV:=.el cs.length fun j=>cs.getD j .nul
theorem aS (hN : Nm hp0 ν) {i : Nat} {l : List AV} {cs : List C} (h : L[i]? = some (.box l)) (hl : l = cs.map .c) : ArgV (hpL hp0 ν L) (.ad (ν i) 0) (elA cs):=by
 subst hl
 have:=ArgV.box (hp:=hpL hp0 ν L) (x:=ν i) (l:=cs.map .c) (f:=fun j=>cs.getD j .nul) (by rw [ah hN];exact h) fun j hj=>⟨cs.getD j .nul,by
  have hj' : j < cs.length:=by simpa using hj
  simp [List.getD_eq_getElem?_getD,hj'],.refl _⟩
 rwa [List.length_map] at this
theorem aL {hp : Hp} (cs : List C) : ArgV hp (elA cs) (elA cs):=.el _ _
theorem br {P : Program} {f : FuncId} {args avs : List AV} {nw : List Ent} {val : List Nat → AV} {hp : Hp} {k : Eff → Prop} (hF : ap P f args nw val) (hA : g7 hp avs args) (h1 : nw.all Ent.flat = true) (h2 : ∀ ν,(val ν).flat = true) (h : k ⟨True,nw,[],val⟩) : ∃ E,b9 P f avs hp E ∧ k E :=
 ⟨_,nJ hF hA h1 h2,h⟩
theorem du {P : Program} {f : FuncId} {args avs : List AV} {nw : List Ent} {val : List Nat → AV} {hp : Hp} {k : Eff → Prop} (hF : ap P f args nw val) (hA : g7 hp avs args) (hn : au avs = []) (h1 : nw.all (fun e=>e.kind == 1) = true) (h : k ⟨True,nw,[],val⟩) : ∃ E,b9 P f avs hp E ∧ k E :=
 ⟨_,nK hF hA hn (fun e he=>by simpa using List.all_eq_true.1 h1 e he),h⟩
theorem dj {ti : TI} {fn : Func} {tm : Nat → AV} {hp : Hp} {c c' : C} {e : Exit} (he : e = .normal ∨ e = .ret) (hr : bS ti tm hp fn.results.toList = some (.c c')) (hc : c' = c) : nG ti fn hp0 [] (fun _=>.c c) e tm hp:=by
 subst hc
 exact ⟨he,_,hr,ma [] List.nodup_nil rfl (fun i hi=>by simp at hi) fun ν _=>.rd (.refl _)⟩
theorem e8 {ti : TI} {fn : Func} {tm : Nat → AV} (hN : Nm hp0 ν) {i : Nat} {T : TypeId} {nn nn' : Fl} {c c' : C} {e : Exit} (he : e = .normal ∨ e = .ret) (hr : bS ti tm (hpL hp0 ν L) fn.results.toList = some (.sl (ν i))) (h : L[i]? = some (.arr T nn c')) (hc : c' = c) (hn : ((!nn'.nn || nn.nn) && (!nn'.hd || nn.hd)) = true) :
  nG ti fn hp0 [.arr T nn' c] (fun ns=>.sl (ns.getD 0 0)) e tm (hpL hp0 ν L):=by
 subst hc
 refine ⟨he,_,hr,ma [ν i] (by simp) rfl (fun j hj=>?_) fun ns _=>.sl 0 (by simp)⟩
 have : j = 0:=by simp at hj;exact hj
 subst this
 exact ⟨T,nn,nn',c',by rw [List.getD_cons_zero,ah hN];exact h,rfl,oZ hn⟩
theorem tH {ti : TI} {fn : Func} {tm : Nat → AV} {hp : Hp} {e : Exit} {nw : List Ent} {val : List Nat → AV} {r : AV} (he : e = .normal ∨ e = .ret) (hr : bS ti tm hp fn.results.toList = some r) (h : rx hp0 r hp nw val) : nG ti fn hp0 nw val e tm hp:=⟨he,_,hr,h⟩
end
def CB : AV → Prop → Prop → Prop
 | .c (.bool b), X, Y => (b = true → X) ∧ (b = false → Y)
 | _, _, _ => False
section
variable {P : Program} {ti : TI} {N : Nat} {hB hp0 : Hp} {ν : Nat → Nat} {ops : Array Oper} {S : List Fr} {Q : ff} {tm : Nat → AV} {hp : Hp}
theorem a8 {t : Nat} {x y : Code} {L : List (Nat × AV)} (hc : L.lookup t = some (.c (.bool true))) (h : Aw P N hB x (Nx P N hB S Q) (tmL L) hp) : Aw P N hB (.cond (.tmp t) x y) (Nx P N hB S Q) (tmL L) hp:=uM (by show tmL L t = _;unfold tmL;rw [hc]) h
theorem ba {t : Nat} {x y : Code} {L : List (Nat × AV)} (hc : L.lookup t = some (.c (.bool false))) (h : Aw P N hB y (Nx P N hB S Q) (tmL L) hp) : Aw P N hB (.cond (.tmp t) x y) (Nx P N hB S Q) (tmL L) hp:=uN (by show tmL L t = _;unfold tmL;rw [hc]) h
theorem aN {c : Operand} {x y : Code} (h : ∀ X Y : Prop,(Aw P N hB x (Nx P N hB S Q) tm hp → X) → (Aw P N hB y (Nx P N hB S Q) tm hp → Y) → CB (evT tm c) X Y) : Aw P N hB (.cond c x y) (Nx P N hB S Q) tm hp:=by
 have:=h _ _ id id
 unfold CB at this
 split at this
 · rename_i hc;exact uO hc this.1 this.2
 · exact this.elim
theorem bG {o : Oper} {l : List Oper} {K : (Nat → AV) → Hp → Prop} {L : List (Nat × AV)} (h : aws P ti hp0 ν ops (o :: l) K (tmL L) hp) : aws P ti hp0 ν ops (o :: l) K (tmL L) hp:=h
theorem cm {l : List Oper} {K : List Foot → (Nat → AV) → Hp → Prop} {acc : List Foot} {L : List (Nat × AV)} (h : awd P ti hp0 ν ops l K acc (tmL L) hp) : awd P ti hp0 ν ops l K acc (tmL L) hp:=h
theorem bc {c : Operand} {x y : Code} {S : List Fr} {L : List (Nat × AV)} (h : Aw P N hB (.cond c x y) (Nx P N hB S Q) (tmL L) hp) : Aw P N hB (.cond c x y) (Nx P N hB S Q) (tmL L) hp:=h
theorem tI {o : Oper} {l : List Oper} {K : (Nat → AV) → Hp → Prop} {L : List (Nat × AV)} {d : Nat} (hg : o.guard = none) (hd : o.dst = some d)
  (h : ∀ K' : AV → Hp → Prop,(∀ a hp,aws P ti hp0 ν ops l K (tmL ((d,a) :: L)) hp → K' a hp) → eG P ti o.op (evT (tmL L)) hp fun E=>FN hp0 ν E.nw (aI hp E.up) fun hp' ns=>K' (E.val ns) hp') : aws P ti hp0 ν ops (o :: l) K (tmL L) hp:=by
 simp only [aws,hg,hd,cx,dt]
 exact h (fun a hp=>aws P ti hp0 ν ops l K (tmL ((d,a) :: L)) hp) fun _ _ h=>h
theorem tJ {o : Oper} {l : List Oper} {K : (Nat → AV) → Hp → Prop} {L : List (Nat × AV)} (hg : o.guard = none) (hd : o.dst = none)
  (h : ∀ K' : Hp → Prop,(∀ hp,aws P ti hp0 ν ops l K (tmL L) hp → K' hp) → eG P ti o.op (evT (tmL L)) hp fun E=>FN hp0 ν E.nw (aI hp E.up) fun hp' ns=>K' hp') : aws P ti hp0 ν ops (o :: l) K (tmL L) hp:=by
 simp only [aws,hg,hd,cx]
 exact h (fun hp=>aws P ti hp0 ν ops l K (tmL L) hp) fun _ h=>h
theorem tK {o : Oper} {l : List Oper} {K : List Foot → (Nat → AV) → Hp → Prop} {acc : List Foot} {L : List (Nat × AV)} {d : Nat} (hg : o.guard = none) (hd : o.dst = some d)
  (h : ∀ K' : Foot → AV → Hp → Prop,(∀ f a hp,awd P ti hp0 ν ops l K (acc ++ [f]) (tmL ((d,a) :: L)) hp → K' f a hp) → eG P ti o.op (evT (tmL L)) hp fun E=>FN hp0 ν E.nw (aI hp E.up) fun hp' ns=>K' ⟨rdN o.op (evT (tmL L)),E.up.map (·.1),ns⟩ (E.val ns) hp') : awd P ti hp0 ν ops (o :: l) K acc (tmL L) hp:=by
 simp only [awd,hg,hd,cx,dt]
 exact h (fun f a hp=>awd P ti hp0 ν ops l K (acc ++ [f]) (tmL ((d,a) :: L)) hp) fun _ _ _ h=>h
theorem tL {o : Oper} {l : List Oper} {K : List Foot → (Nat → AV) → Hp → Prop} {acc : List Foot} {L : List (Nat × AV)} (hg : o.guard = none) (hd : o.dst = none)
  (h : ∀ K' : Foot → Hp → Prop,(∀ f hp,awd P ti hp0 ν ops l K (acc ++ [f]) (tmL L) hp → K' f hp) → eG P ti o.op (evT (tmL L)) hp fun E=>FN hp0 ν E.nw (aI hp E.up) fun hp' ns=>K' ⟨rdN o.op (evT (tmL L)),E.up.map (·.1),ns⟩ hp') : awd P ti hp0 ν ops (o :: l) K acc (tmL L) hp:=by
 simp only [awd,hg,hd,cx]
 exact h (fun f hp=>awd P ti hp0 ν ops l K (acc ++ [f]) (tmL L) hp) fun _ _ h=>h
theorem fG {L : List (Nat × AV)} {d : Nat} {a : AV} (h : L.lookup d = some a) : tmL L d = a:=by unfold tmL;rw [h]
theorem bF {o : Oper} {l : List Oper} {K : (Nat → AV) → Hp → Prop} {L : List (Nat × AV)} {j d : Nat} {want : Bool} (hg : o.guard = some (j,want)) (hd : (ops[j]?).bind (·.dst) = some d) (ht : L.lookup d = some (.c (.bool want)))
  (h : aws P ti hp0 ν ops ({ o with guard:=none } :: l) K (tmL L) hp) : aws P ti hp0 ν ops (o :: l) K (tmL L) hp:=tu hg hd (fG ht) h
theorem bo {o : Oper} {l : List Oper} {K : (Nat → AV) → Hp → Prop} {L : List (Nat × AV)} {j d e : Nat} {want : Bool} (hg : o.guard = some (j,want)) (hd : (ops[j]?).bind (·.dst) = some d) (ht : L.lookup d = some (.c (.bool (!want)))) (he : o.dst = some e)
  (h : aws P ti hp0 ν ops l K (tmL ((e,.k undef) :: L)) hp) : aws P ti hp0 ν ops (o :: l) K (tmL L) hp:=rO hg hd (fG ht) (by rw [he];simp only [cx,dt];exact h)
theorem cQ {o : Oper} {l : List Oper} {K : List Foot → (Nat → AV) → Hp → Prop} {acc : List Foot} {L : List (Nat × AV)} {j d : Nat} {want : Bool} (hg : o.guard = some (j,want)) (hd : (ops[j]?).bind (·.dst) = some d) (ht : L.lookup d = some (.c (.bool want)))
  (h : awd P ti hp0 ν ops ({ o with guard:=none } :: l) K acc (tmL L) hp) : awd P ti hp0 ν ops (o :: l) K acc (tmL L) hp:=tv hg hd (fG ht) h
theorem cz {o : Oper} {l : List Oper} {K : List Foot → (Nat → AV) → Hp → Prop} {acc : List Foot} {L : List (Nat × AV)} {j d e : Nat} {want : Bool} (hg : o.guard = some (j,want)) (hd : (ops[j]?).bind (·.dst) = some d) (ht : L.lookup d = some (.c (.bool (!want)))) (he : o.dst = some e)
  (h : awd P ti hp0 ν ops l K (acc ++ [⟨[],[],[]⟩]) (tmL ((e,.k undef) :: L)) hp) : awd P ti hp0 ν ops (o :: l) K acc (tmL L) hp:=rQ hg hd (fG ht) (by rw [he];simp only [cx,dt];exact h)
theorem bX {o : Oper} {l : List Oper} {K : (Nat → AV) → Hp → Prop} {L : List (Nat × AV)} {j d e : Nat} {want : Bool} (hg : o.guard = some (j,want)) (hd : (ops[j]?).bind (·.dst) = some d) (ht : L.lookup d = some (.k undef)) (he : o.dst = some e)
  (h : aws P ti hp0 ν ops l K (tmL ((e,.k undef) :: L)) hp) : aws P ti hp0 ν ops (o :: l) K (tmL L) hp:=by
 simp only [aws,hg,hd,fG ht,he,cx,dt]
 exact ⟨trivial,h⟩
theorem dw {o : Oper} {l : List Oper} {K : List Foot → (Nat → AV) → Hp → Prop} {acc : List Foot} {L : List (Nat × AV)} {j d e : Nat} {want : Bool} (hg : o.guard = some (j,want)) (hd : (ops[j]?).bind (·.dst) = some d) (ht : L.lookup d = some (.k undef)) (he : o.dst = some e)
  (h : awd P ti hp0 ν ops l K (acc ++ [⟨[],[],[]⟩]) (tmL ((e,.k undef) :: L)) hp) : awd P ti hp0 ν ops (o :: l) K acc (tmL L) hp:=by
 simp only [awd,hg,hd,fG ht,he,cx,dt]
 exact ⟨trivial,h⟩
theorem bp {o : Oper} {l : List Oper} {K : (Nat → AV) → Hp → Prop} {L : List (Nat × AV)} {j d : Nat} {want : Bool} (hg : o.guard = some (j,want)) (hd : (ops[j]?).bind (·.dst) = some d)
  (h : ∀ X Y : Prop,(aws P ti hp0 ν ops (o :: l) K (tmL ((d,.c (.bool true)) :: L)) hp → X) → (aws P ti hp0 ν ops (o :: l) K (tmL ((d,.c (.bool false)) :: L)) hp → Y) → CB (tmL L d) X Y) : aws P ti hp0 ν ops (o :: l) K (tmL L) hp:=by
 have h':=h _ _ id id
 unfold CB at h'
 split at h'
 · rename_i t ht
   exact qy hg hd ht (fun e=>by rw [dt];exact h'.1 e) (fun e=>by rw [dt];exact h'.2 e)
 · exact h'.elim
theorem cA {o : Oper} {l : List Oper} {K : List Foot → (Nat → AV) → Hp → Prop} {acc : List Foot} {L : List (Nat × AV)} {j d : Nat} {want : Bool} (hg : o.guard = some (j,want)) (hd : (ops[j]?).bind (·.dst) = some d)
  (h : ∀ X Y : Prop,(awd P ti hp0 ν ops (o :: l) K acc (tmL ((d,.c (.bool true)) :: L)) hp → X) → (awd P ti hp0 ν ops (o :: l) K acc (tmL ((d,.c (.bool false)) :: L)) hp → Y) → CB (tmL L d) X Y) : awd P ti hp0 ν ops (o :: l) K acc (tmL L) hp:=by
 have h':=h _ _ id id
 unfold CB at h'
 split at h'
 · rename_i t ht
   exact qz hg hd ht (fun e=>by rw [dt];exact h'.1 e) (fun e=>by rw [dt];exact h'.2 e)
 · exact h'.elim
theorem uR {hp : Hp} {k : Hp → List Nat → Prop} : FN hp0 ν [] hp k = k hp []:=rfl
theorem bI {hp : Hp} {k : Hp → List Nat → Prop} (h : k hp []) : FN hp0 ν [] hp k:=h
theorem aO {L : List Ent} {e : Ent} {es : List Ent} {k : Hp → List Nat → Prop} (h : k (hpL hp0 ν (L ++ e :: es)) (nmL ν L.length (e :: es))) : FN hp0 ν (e :: es) (hpL hp0 ν L) k:=⟨L,rfl,h⟩
end
inductive FI (ν : Nat → Nat) : List Nat → List Nat → Prop where
 | nil : FI ν [] []
 | cons {i : Nat} {l m : List Nat} (h : FI ν l m) : FI ν (ν i :: l) (i :: m)
inductive FtI (ν : Nat → Nat) : List Foot → List Foot → Prop where
 | nil : FtI ν [] []
 | cons {a b c a' b' c' : List Nat} {l m : List Foot} (h1 : FI ν a a') (h2 : FI ν b b') (h3 : FI ν c c') (h : FtI ν l m) : FtI ν (l ++ [⟨a, b, c⟩]) (m ++ [⟨a', b', c'⟩])
def rX (l m : List Nat) : Bool:=l.all fun x=>m.all fun y=>!(x == y)
def tM (f g : Foot) : Bool:=rX (f.wr ++ f.nw) (g.rd ++ g.wr) && rX (g.wr ++ g.nw) (f.rd ++ f.wr)
def ftB (ops : Array Oper) (l : List Foot) : Bool:=(gU ops).all fun p=>tM (l.getD p.1 ⟨[],[],[]⟩) (l.getD p.2 ⟨[],[],[]⟩)
theorem FI.map {ν : Nat → Nat} {l m : List Nat} (h : FI ν l m) : l = m.map ν:=by
 induction h with
 | nil => rfl
 | cons h ih => rw [ih]; rfl
theorem FtI.map {ν : Nat → Nat} {l m : List Foot} (h : FtI ν l m) : l = m.map fun f=>⟨f.rd.map ν,f.wr.map ν,f.nw.map ν⟩:=by
 induction h with
 | nil => rfl
 | cons h1 h2 h3 h ih => rw [List.map_append, ← ih, h1.map, h2.map, h3.map]; rfl
theorem o6 {hp0 : Hp} {ν : Nat → Nat} (hN : Nm hp0 ν) {l m : List Nat} (h : rX l m = true) : rr (l.map ν) (m.map ν):=by
 intro x hx y hy e
 obtain ⟨i,hi,rfl⟩:=List.mem_map.1 hx
 obtain ⟨j,hj,rfl⟩:=List.mem_map.1 hy
 have h1:=List.all_eq_true.1 (List.all_eq_true.1 h i hi) j hj
 have:=hN.inj _ _ e
 subst this
 simp at h1
theorem o7 {hp0 : Hp} {ν : Nat → Nat} (hN : Nm hp0 ν) {ops : Array Oper} {acc ai : List Foot} (h : FtI ν acc ai) (hb : ftB ops ai = true) : l5 (gU ops) acc:=by
 intro p hp
 have h1:=List.all_eq_true.1 hb p hp
 simp only [tM,Bool.and_eq_true] at h1
 rw [h.map]
 have e : ∀ i,(ai.map fun f=>(⟨f.rd.map ν,f.wr.map ν,f.nw.map ν⟩ : Foot)).getD i ⟨[],[],[]⟩ = ⟨(ai.getD i ⟨[],[],[]⟩).rd.map ν,(ai.getD i ⟨[],[],[]⟩).wr.map ν,(ai.getD i ⟨[],[],[]⟩).nw.map ν⟩:=fun i=>by
  simp only [List.getD_eq_getElem?_getD,List.getElem?_map]
  cases ai[i]? <;> rfl
 rw [e,e]
 refine ⟨?_,?_⟩ <;> simp only [← List.map_append] <;> exact o6 hN (by first|exact h1.1|exact h1.2)
theorem qD {P : Program} {ti : TI} {N : Nat} {hB hp0 : Hp} {ν : Nat → Nat} {S : List Fr} {Q : ff} {tm : Nat → AV} {hp : Hp} {id : Nat} {l : List Oper} {draw : Bool} (hT : cU P ti) (hN : Nm hp0 ν) (hd : draw = true) (hm : P.follows .mixedOrders = true) (hs : gl N l.toArray = true) (hst : oP l.toArray = true)
  (h : awd P ti hp0 ν l.toArray l (fun acc tm hp=>l5 (gU l.toArray) acc ∧ Nx P N hB S Q .normal tm hp) [] tm hp) : Aw P N hB (.region id l.toArray draw) (Nx P N hB S Q) tm hp :=
 rT hT hN hm hd hs hst _ rfl h
theorem tN {P : Program} {ti : TI} {hp0 : Hp} {ν : Nat → Nat} {ops : Array Oper} {X : (Nat → AV) → Hp → Prop} {acc : List Foot} {tm : Nat → AV} {hp : Hp} (hN : Nm hp0 ν) (h : ∃ ai,FtI ν acc ai ∧ ftB ops ai = true) (hx : X tm hp) : awd P ti hp0 ν ops [] (fun acc tm hp=>l5 (gU ops) acc ∧ X tm hp) acc tm hp :=
 ⟨let ⟨_,h1,h2⟩:=h;o7 hN h1 h2,hx⟩
theorem o8 {q : Prop} (h : ¬ q) : false = tf q:=(aH h).symm
theorem qE {q : Prop} (h : q) : true = tf q:=(bh h).symm
theorem kd {b : Bool} {q : Prop} (h : b = true ↔ q) : b = tf q:=by
 cases b
 · exact o8 fun hq=>by have:=h.2 hq;cases this
 · exact qE (h.1 rfl)
theorem aj {p : Prop} (h : p) : p:=h
theorem uS {p : Prop} : (tf p = true) = p:=propext mC
theorem uT {p : Prop} : (tf p = false) = ¬ p:=propext om
theorem qF (tm : Nat → AV) (t : Nat) : evT tm (.tmp t) = tm t:=rfl
theorem qG (tm : Nat → AV) (k : IntKind) (n : Int) : evT tm (.const (.int k n)) = .c (.int k n):=rfl
theorem o9 (tm : Nat → AV) (b : Bool) : evT tm (.const (.bool b)) = .c (.bool b):=rfl
theorem qH (tm : Nat → AV) : evT tm (.const (.slice none 0 0)) = .c .nul:=rfl
theorem pa (tm : Nat → AV) (f : FuncId) : evT tm (.func f) = .fn (.func f) []:=rfl
theorem qI {n : Int} (h : -9223372036854775808 ≤ n ∧ n ≤ 9223372036854775807) : IntKind.i64.wrap n = n:=by rw [IntKind.wrap_i64];omega
attribute [go_sem] List.range_zero List.range_succ and_self eG dZ opW qF qG o9 qH pa mU aI uR nmL qd unW gS fS fT fU eR lI qe qf cN jS jT dv mK mL ky toC fb qa C.row qb gc i4 mJ fR g0 fj jg bM slC dU gD C.view AV.one AV.cells TSh.isStruct ret ir CB qI List.size_toArray List.map_cons List.map_nil List.getElem?_cons_zero List.getElem?_cons_succ List.length_cons List.length_nil List.set_cons_zero List.set_cons_succ List.take_succ_cons List.take_zero List.take_nil List.drop_zero List.drop_succ_cons List.cons_append List.nil_append List.getD_cons_zero List.getD_cons_succ List.all_cons List.all_nil rdN Op.operands Call.operands Array.toList_append Array.toList_map Option.toArray List.append_toArray Op.still au AV.names List.append_nil Option.map_some Option.map_none Option.bind_some uS uT Bool.and_eq_true Bool.or_eq_true Bool.and_eq_false_imp Bool.or_eq_false_iff Fl.yes Fl.may bD cI cT bH List.length_set List.length_append List.length_replicate List.not_mem_nil not_false_eq_true Int.toNat_natCast true_and and_true forall_const false_imp_iff true_imp_iff implies_true eq_self Bool.false_eq_true Bool.true_eq_false Bool.and_self Bool.not_true Bool.not_false Nat.zero_add decide_eq_true_eq decide_eq_false_iff_not Bool.not_eq_true' Bool.not_eq_false' beq_iff_eq bne_iff_ne ne_eq gt_iff_lt ge_iff_le ti2 ti3 ti4 ti5 ti6 ti7 ti8 tW tX tY tZ t6 t7 t8 ub uc ud uf ug uh ui uj uk ul um un uo uq ur ut uu uv uw ux uy uz uA sn so sr ss sy sA sB sC sD sE sF sG sH sI
end Go.Proofs.Ythjamlponejffaa
namespace Go.Proofs.Ythjamlponejffaa
set_option linter.unusedVariables false
set_option linter.unusedSimpArgs false
open Go.RowKit
theorem dc (n : Nat) (f : Nat → Bool) : (bZ n fun i=>if i < 0 then f i else false) = List.replicate n false:=by
 refine (g8 (by simp) fun k hk=>?_).symm
 simp [gb,List.getD_eq_getElem?_getD,List.getElem?_replicate,hk]
theorem pb (n : Nat) (f : Nat → Int) : (tab n fun i=>if i < 0 then f i else 0) = List.replicate n 0:=by
 refine (il (by simp) fun k hk=>?_).symm
 simp [gi,List.getD_eq_getElem?_getD,List.getElem?_replicate,hk]
theorem ee {n k : Nat} {f d : Nat → Bool} {v : Bool} (hk : k < n) (hv : v = f k) : (bZ n fun i=>if i < k + 1 then f i else d i) = (bZ n fun i=>if i < k then f i else d i).set k v:=by
 rw [hv];exact (nf hk).symm
theorem pc {n k : Nat} {f d : Nat → Int} {v : Int} (hk : k < n) (hv : v = f k) : (tab n fun i=>if i < k + 1 then f i else d i) = (tab n fun i=>if i < k then f i else d i).set k v:=by
 rw [hv];exact (ow hk).symm
theorem dN {n k : Nat} {f d : Nat → Bool} (hk : n ≤ k) : (bZ n fun i=>if i < k then f i else d i) = bZ n f:=cC fun j hj=>if_pos (by omega)
theorem pd {n k : Nat} {f d : Nat → Int} (hk : n ≤ k) : (tab n fun i=>if i < k then f i else d i) = tab n f:=ci fun j hj=>if_pos (by omega)
end Go.Proofs.Ythjamlponejffaa
namespace Go.Proofs.Ythjamlponejffaa
set_option linter.unusedVariables false
set_option linter.unusedSimpArgs false
open Go.RowKit
theorem kS {O : Nat → Prop} {w : World} {c : C} {V : View} {v : Value} (h : Rd O w c v) (hv : c.view = some V) (hwd : V.wd = 1) : ∃ sa n cp vs,v = .slice sa n cp ∧ n = V.len ∧ Cells w sa n cp vs ∧ ∀ i,i < V.len → Rd O w (V.at' i 0) (vs i):=by
 cases h with
 | sl hv' hn hc hm h0 hs cell rec =>
   rw [hv] at hv';injection hv' with hv';subst hv'
   refine ⟨_,_,_,fun i=>_,rfl,rfl,⟨hc,hm,h0,fun ad e hpos=>(hs ad e hpos).1,fun ad e k hk=>?_⟩,fun i hi=>rec i hi 0 (by omega)⟩
   have:=cell ad e k hk 0 (by omega)
   rw [hwd,Nat.mul_one,Nat.add_zero] at this
   exact this
 | _ => simp [C.view] at hv
theorem nN {O : Nat → Prop} {w : World} {v : Value} {xs : List Int} (h : Rd O w (.I xs) v) : IsI w v xs:=by
 obtain ⟨sa,n,cp,vs,rfl,rfl,hc,hr⟩:=kS h rfl rfl
 refine ⟨sa,_,cp,rfl,rfl,hc.cap,hc.max,hc.nil,hc.spot,fun ad e k hk=>?_⟩
 have h1:=hr k hk
 rw [hc.cell ad e k hk]
 revert h1
 generalize vs k = u
 intro h1
 cases h1 with
 | sl hv' => simp [C.view] at hv'
 | _ => rfl
theorem re {O : Nat → Prop} {w : World} {v : Value} {xss : List (List Int)} (h : Rd O w (.R xss) v) : dT w v xss:=by
 obtain ⟨sa,n,cp,vs,rfl,rfl,hc,hr⟩:=kS h rfl rfl
 have key : ∀ i,i < xss.length → ∃ a l c,vs i = .slice a l c ∧ cK w a l c (gr xss i):=fun i hi=>by
  obtain ⟨a,l,c,e,h⟩:=nN (hr i hi)
  exact ⟨a,l,c,e,h⟩
 let A : Nat → Option Addr:=fun i=>match vs i with | .slice a _ _=>a | _=>none
 let L : Nat → Nat:=fun i=>match vs i with | .slice _ l _=>l | _=>0
 let K : Nat → Nat:=fun i=>match vs i with | .slice _ _ c=>c | _=>0
 have eA : ∀ i,i < xss.length → vs i = .slice (A i) (L i) (K i) ∧ cK w (A i) (L i) (K i) (gr xss i):=fun i hi=>by
  obtain ⟨a,l,c,e,h⟩:=key i hi
  have e1 : A i = a:=by show (match vs i with | .slice a _ _=>a | _=>none) = a;rw [e]
  have e2 : L i = l:=by show (match vs i with | .slice _ l _=>l | _=>0) = l;rw [e]
  have e3 : K i = c:=by show (match vs i with | .slice _ _ c=>c | _=>0) = c;rw [e]
  rw [e1,e2,e3];exact ⟨e,h⟩
 refine ⟨sa,_,cp,rfl,rfl,A,L,K,⟨hc.cap,hc.max,hc.nil,hc.spot,fun ad e k hk=>?_⟩,fun k hk=>(eA k hk).2⟩
 rw [hc.cell ad e k hk,(eA k hk).1]
abbrev arA (a : Ar) : AV:=.agg [.c (.I a.own),.c (.R a.nxt)]
abbrev paA (g : Pa) : AV:=.agg [.c (.I g.ar.own),.c (.R g.ar.nxt),.c (.I g.prio)]
inductive AVs (φ : Nat → Loc) (hp : Hp) (w : World) : List AV → List Value → Prop where
 | nil : AVs φ hp w [] []
 | cons {a : AV} {v : Value} {l : List AV} {m : List Value} (h : AVC φ hp w a v) (t : AVs φ hp w l m) : AVs φ hp w (a :: l) (v :: m)
theorem AVs.at {φ : Nat → Loc} {hp : Hp} {w : World} {l : List AV} {m : List Value} (h : AVs φ hp w l m) : m.length = l.length ∧ ∀ i,i < l.length → AVC φ hp w (l.getD i .any) (m.getD i undef):=by
 induction h with
 | nil => exact ⟨rfl, fun i h => by simp at h⟩
 | cons h t ih =>
   refine ⟨by simp [ih.1],fun i hi=>?_⟩
   cases i with
   | zero => exact h
   | succ i => exact ih.2 i (by simpa using hi)
theorem AVs.of {φ : Nat → Loc} {hp : Hp} {w : World} : ∀ {l : List AV} {m : List Value},m.length = l.length → (∀ i,i < l.length → AVC φ hp w (l.getD i .any) (m.getD i undef)) → AVs φ hp w l m
 | [], [], _, _ => .nil
 | a :: l, v :: m, hl, h => .cons (h 0 (by simp)) (AVs.of (by simpa using hl) fun i hi => h (i + 1) (by simpa using hi))
theorem ke {φ : Nat → Loc} {hp : Hp} {w : World} {l : List AV} {v : Value} (h : AVC φ hp w (.agg l) v) : ∃ vs : List Value,v = .agg vs.toArray ∧ AVs φ hp w l vs:=by
 obtain ⟨vs,rfl,h1,h2⟩:=eT h
 exact ⟨vs,rfl,.of h1 h2⟩
theorem mV {φ : Nat → Loc} {hp : Hp} {w : World} {l : List AV} {vs : List Value} (h : AVs φ hp w l vs) : AVC φ hp w (.agg l) (.agg vs.toArray):=.agg h.at.1 h.at.2
theorem uU {φ : Nat → Loc} {hp : Hp} {w : World} {v : Value} {a : Ar} (h : AVC φ hp w (arA a) v) : IsA w v a:=by
 obtain ⟨vs,e,h'⟩:=ke h
 subst e
 match vs,h' with
 | [x, y], .cons h1 (.cons h2 .nil) => exact ⟨x, y, rfl, nN (db h1), re (db h2)⟩
theorem qJ {φ : Nat → Loc} {hp : Hp} {w : World} {v : Value} {g : Pa} (h : AVC φ hp w (paA g) v) : IsP w v g:=by
 obtain ⟨vs,e,h'⟩:=ke h
 subst e
 match vs,h' with
 | [x, y, z], .cons h1 (.cons h2 (.cons h3 .nil)) => exact ⟨x, y, z, rfl, nN (db h1), re (db h2), nN (db h3)⟩
abbrev h00 : Hp:=fun _=>none
abbrev φ00 : Nat → Loc:=fun _=>.nil
theorem tO (b : Nat) : ¬ Own φ00 h00 b:=fun ⟨_,⟨_,h,_⟩,_⟩=>by cases h
theorem uV (w : World) : HC φ00 h00 w.heap.size w w :=
 ⟨Below.refl _ _,Nat.le_refl _,⟨0,fun _ _=>rfl⟩,(fun _ _ h=>by cases h),(fun _ _ _ _ ⟨_,h,_⟩=>by cases h),(fun _ _ ⟨_,h,_⟩=>by cases h)⟩
section
variable {P : Program} {f : FuncId} {args : List AV}
theorem fH {fn : Func} (hf : P.funcs[f]? = some fn) (hb : fn.body.isNone = false) (hname : (fn.name == "runtime.NumGoroutine") = false) {c : C} {u : Value} (hu : ∀ (O : Nat → Prop) w, Rd O w c u)
  (h : ∀ φ hp w (vs : List Value),AVs φ hp w args vs → Calls P f vs.toArray w fun e w'=>e = .returned u ∧ Below w.heap.size w w') : ap P f args [] fun _=>.c c:=by
 refine ⟨⟨fn,hf,hb,hname⟩,fun φ0 hp0 w vs hX H hl hv=>(h φ0 hp0 w vs (.of hl hv)).mono fun e w' ⟨he,hbw⟩=>⟨u,he,?_⟩⟩
 intro ν hl hn hf
 have : ν = []:=List.eq_nil_of_length_eq_zero hl
 subst this
 have hE : Evo φ0 hp0 w φ0 (bt (aI hp0 []) [] []) w':=⟨fun ν e he=>⟨e,he,.inr ⟨rfl,rfl⟩⟩,fun b hb ho=>⟨hbw.block b hb,ho⟩,hbw.size,fun b hb _=>hbw.block b hb⟩
 refine ⟨φ0,⟨hbw,hbw.size,H.fin,fun ν e he=>?_,H.sep,fun ν b hm hb'=>H.lo ν b hm hb'⟩,hE,.c (hu _ _)⟩
 exact (H.ent ν e he).evo hE fun hk b hb'=>hbw.block b (H.lt ⟨e,he,hk⟩ hb')
theorem qK {c : C} {w : World} {vs : List Value} (hF : ap P f args [] fun _=>.c c) (hv : AVs φ00 h00 w args vs) : Calls P f vs.toArray w fun e w'=>∃ v,e = .returned v ∧ (∃ O : Nat → Prop,Rd O w' c v) ∧ Below w.heap.size w w':=by
 refine (hF.2 φ00 h00 w vs (fun _ _ h=>by cases h) (uV w) hv.at.1 hv.at.2).mono fun e w' ⟨v,he,ho⟩=>⟨v,he,?_⟩
 obtain ⟨φ',H,_,ha⟩:=ho [] rfl List.nodup_nil (fun _ h=>by cases h)
 exact ⟨⟨_,db ha⟩,H.fr⟩
theorem qL {b : Bool} {w : World} {vs : List Value} (hF : ap P f args [] fun _=>.c (.bool b)) (hv : AVs φ00 h00 w args vs) : Calls P f vs.toArray w fun e w'=>e = .returned (.bool b) ∧ Below w.heap.size w w' :=
 (qK hF hv).mono fun e w' ⟨v,he,⟨O,h⟩,hb⟩=>by
  cases h with
  | sl hv' => simp [C.view] at hv'
  | _ => exact ⟨he, hb⟩
end
theorem mc {O : Nat → Prop} {T : TypeId} {lo hi : Nat} {w : World} {v : Value} {us : List Value} (d : Value) (h : aE T lo hi w v us) (hO : ∀ b,lo ≤ b → ¬ O b) {c : C} {V : View} (hv : c.view = some V) (hl : V.len = us.length) (hwd : V.wd = 1) (hn : c.isNN = false)
  (hr : ∀ i,i < us.length → Rd O w (V.at' i 0) (us.getD i d)) : Rd O w c v:=by
 have hlt:=h.lt
 obtain ⟨sa,cp,rfl,hc⟩:=h.form d
 rw [← hl] at hc hr ⊢
 refine .sl (vs:=fun i _=>us.getD i d) hv (fun e=>by rw [hn] at e;cases e) hc.cap hc.max hc.nil (fun ad e hpos=>?_) (fun ad e i hi j hj=>?_) (fun i hi j hj=>?_)
 · obtain ⟨b,o,e',hb,_⟩:=hc.get hpos
   rw [e] at e';injection e' with e';subst e'
   subst e
   exact ⟨rfl,hO _ (hlt b rfl).1,hb⟩
 · have : j = 0:=by omega
   subst this
   rw [hwd,Nat.mul_one,Nat.add_zero]
   exact hc.cell ad e i hi
 · have : j = 0:=by omega
   subst this
   exact hr i hi
theorem gt {O : Nat → Prop} {lo hi : Nat} {w : World} {v : Value} {xs : List Int} (h : aM lo hi w v xs) (hO : ∀ b,lo ≤ b → ¬ O b) : Rd O w (.I xs) v :=
 mc (.int .i64 0) h hO rfl (by simp) rfl rfl fun i hi=>by rw [gy];exact .int _ _
end Go.Proofs.Ythjamlponejffaa
namespace Go.Proofs.Ythjamlponejffaa
set_option linter.unusedVariables false
set_option linter.unusedSimpArgs false
open Go.RowKit
def tP (p : Prop) : Prop:=p
section
variable {P : Program} {ti : TI} {N : Nat} {hB hp0 : Hp} {ν : Nat → Nat} {S : List Fr} {Q : ff}
theorem iF (id : Nat) {l : Array Oper} {d : Bool} {tm : Nat → AV} {hp : Hp} (h : tP (Aw P N hB (.region id l d) (Nx P N hB S Q) tm hp)) : Aw P N hB (.region id l d) (Nx P N hB S Q) tm hp:=h
theorem pe {c : Code} {tm tm' : Nat → AV} {hp hp' : Hp} {R : ff} (hl : Le hB tm hp tm' hp') (h : Aw P N hB c R tm' hp') : tP (Aw P N hB c R tm hp):=fun lo w0 φ0 a w hC=>h lo w0 φ0 a w (hl lo w0 φ0 N a w hC)
variable {L : List Ent} {ns νs : List Nat}
abbrev SV (hp0 : Hp) (ν : Nat → Nat) (L : List Ent) (ns νs : List Nat) : AV → AV → Prop:=SubV (hpL hp0 ν L) ns νs
inductive SVs (hp0 : Hp) (ν : Nat → Nat) (L : List Ent) (ns νs : List Nat) : List AV → List AV → Prop where
 | nil : SVs hp0 ν L ns νs [] []
 | cons {a b : AV} {l m : List AV} (h : SV hp0 ν L ns νs a b) (t : SVs hp0 ν L ns νs l m) : SVs hp0 ν L ns νs (a :: l) (b :: m)
theorem SVs.at {l m : List AV} (h : SVs hp0 ν L ns νs l m) : m.length = l.length ∧ ∀ i,i < l.length → SV hp0 ν L ns νs (l.getD i .any) (m.getD i .any):=by
 induction h with
 | nil => exact ⟨rfl, fun i h => by simp at h⟩
 | cons h t ih =>
   refine ⟨by simp [ih.1],fun i hi=>?_⟩
   cases i with
   | zero => exact h
   | succ i => exact ih.2 i (by simpa using hi)
theorem i7 (c : C) : SV hp0 ν L ns νs (.c c) (.c c):=.rd (.refl c)
theorem fN {c c' : C} (h : c = c') : SV hp0 ν L ns νs (.c c) (.c c'):=by subst h;exact .rd (.refl c)
theorem eo (c : C) : SV hp0 ν L ns νs (.c (.nn c)) (.c c):=.rd (.unn c)
theorem ep {c : C} {V : View} (hv : c.view = some V) (h0 : V.len = 0) (hn : c.isNN = false) : SV hp0 ν L ns νs (.c .nul) (.c c):=.rd (.nul hv h0 hn)
theorem fO (hN : Nm hp0 ν) {i : Nat} {T : TypeId} {nn : Fl} {c c' : C} (h : L[i]? = some (.arr T nn c)) (h' : ¬ ν i ∈ ns) (hc : c = c') : SV hp0 ν L ns νs (.sl (ν i)) (.c c'):=by
 subst hc
 refine .fz (by rw [ah hN];exact h) h' ?_
 split
 · exact .unn c
 · exact .refl c
theorem fa {x y : Nat} (i : Nat) (hi : i < ns.length) (hx : x = ns.getD i 0) (hy : y = νs.getD i 0) : SV hp0 ν L ns νs (.sl x) (.sl y):=by subst hx;subst hy;exact .sl i hi
theorem eq {l m : List AV} (h : SVs hp0 ν L ns νs l m) : SV hp0 ν L ns νs (.agg l) (.agg m):=.agg h.at.1 h.at.2
theorem er {l m : List AV} (h : SVs hp0 ν L ns νs l m) : SV hp0 ν L ns νs (.tup l) (.tup m):=.tup h.at.1 h.at.2
inductive Gone (ν : Nat → Nat) (L : List Ent) : List Nat → List Ent → Prop where
 | nil : Gone ν L [] []
 | cons {i : Nat} {T : TypeId} {nn nn' : Fl} {c c' : C} {ns : List Nat} {nw : List Ent} (h : L[i]? = some (.arr T nn c)) (hn : ((!nn'.nn || nn.nn) && (!nn'.hd || nn.hd)) = true) (hc : c = c') (t : Gone ν L ns nw) : Gone ν L (i :: ns) (.arr T nn' c' :: nw)
theorem Gone.at (hN : Nm hp0 ν) {is : List Nat} {nw : List Ent} (h : Gone ν L is nw) : is.length = nw.length ∧ ∀ i,i < (is.map ν).length → ∃ T nn nn' c,hpL hp0 ν L ((is.map ν).getD i 0) = some (.arr T nn c) ∧ nw.getD i .dead = .arr T nn' c ∧ ((nn'.nn = true → nn.nn = true) ∧ (nn'.hd = true → nn.hd = true)):=by
 induction h with
 | nil => exact ⟨rfl, fun i hi => by simp at hi⟩
 | cons h hn hc t ih =>
   subst hc
   refine ⟨by simp [ih.1],fun i hi=>?_⟩
   cases i with
   | zero => exact ⟨_, _, _, _, by rw [List.map_cons, List.getD_cons_zero, ah hN]; exact h, rfl, oZ hn⟩
   | succ i => exact ih.2 i (by simpa using hi)
theorem pf (hN : Nm hp0 ν) {is : List Nat} (h : is.Nodup) : (is.map ν).Nodup:=by
 induction is with
 | nil => exact List.nodup_nil
 | cons i is ih =>
   obtain ⟨h1,h2⟩:=List.nodup_cons.1 h
   rw [List.map_cons,List.nodup_cons]
   refine ⟨fun hm=>?_,ih h2⟩
   obtain ⟨j,k1,k2⟩:=List.mem_map.1 hm
   have:=hN.inj _ _ k2
   subst this;exact h1 k1
theorem fP {fn : Func} (hN : Nm hp0 ν) (is : List Nat) (his : is.Nodup) {tm : Nat → AV} {e : Exit} {nw : List Ent} {val : List Nat → AV} {r : AV} (he : e = .normal ∨ e = .ret) (hr : bS ti tm (hpL hp0 ν L) fn.results.toList = some r) (hg : Gone ν L is nw) (hv : ∀ νs : List Nat,νs.length = is.length → SV hp0 ν L (is.map ν) νs r (val νs)) :
  nG ti fn hp0 nw val e tm (hpL hp0 ν L) :=
 tH he hr (ma (is.map ν) (pf hN his) (by rw [List.length_map];exact (hg.at hN).1) (hg.at hN).2 fun νs h=>hv νs (by rw [h,List.length_map]))
theorem eu (hN : Nm hp0 ν) {i : Nat} {is : List Nat} (h : ¬ i ∈ is) : ¬ ν i ∈ is.map ν:=fun hm=>by
 obtain ⟨j,h1,h2⟩:=List.mem_map.1 hm
 have:=hN.inj _ _ h2
 subst this;exact h h1
end
section
variable {hp0 : Hp} {ν : Nat → Nat} {L : List Ent} {ti : TI} {fn : Func} {l : List (Nat × AV)} {t T i off : Nat} {cells : List AV} {r a : AV}
theorem cB {hp : Hp} (h1 : fn.results.toList = [.tmp t]) (h2 : l.lookup t = some a) : bS ti (tmL l) hp fn.results.toList = some a:=by
 have e : tmL l t = a:=by unfold tmL;rw [h2]
 rw [h1]
 simp only [bS,cc,ch,e]
theorem ce (hN : Nm hp0 ν) (h1 : fn.results.toList = [.cell t T]) (h2 : l.lookup t = some (.ad (ν i) off)) (h3 : L[i]? = some (.box cells)) (h4 : cj ti T cells off = some r) : bS ti (tmL l) (hpL hp0 ν L) fn.results.toList = some r:=by
 have e : tmL l t = .ad (ν i) off:=by unfold tmL;rw [h2]
 rw [h1]
 simp only [bS,cc,ch,e,ah hN,h3,h4]
theorem bO {s : Nat} (hN : Nm hp0 ν) (h1 : fn.results.toList = [.cell t T,.tmp s]) (h2 : l.lookup t = some (.ad (ν i) off)) (h3 : L[i]? = some (.box cells)) (h4 : cj ti T cells off = some r) (h5 : l.lookup s = some a) : bS ti (tmL l) (hpL hp0 ν L) fn.results.toList = some (.tup [r,a]):=by
 have e : tmL l t = .ad (ν i) off:=by unfold tmL;rw [h2]
 have e' : tmL l s = a:=by unfold tmL;rw [h5]
 rw [h1]
 simp only [bS,cc,ch,e,ah hN,h3,h4,e']
theorem bd {i j : Nat} (hN : Nm hp0 ν) (h : i ≠ j) : ¬ ν i ∈ [ν j]:=fun hm=>h (hN.inj _ _ (List.mem_singleton.1 hm))
end
end Go.Proofs.Ythjamlponejffaa
namespace Go.Proofs.Ythjamlponejffaa
set_option linter.unusedVariables false
set_option linter.unusedSimpArgs false
open Go.RowKit
def upL (ν : Nat → Nat) (n : Nat) : List Ent → List (Nat × Ent)
 | [] => []
 | e :: l => (ν n, e) :: upL ν (n + 1) l
theorem kT {hp0 : Hp} {ν : Nat → Nat} (hN : Nm hp0 ν) : ∀ (es A B : List Ent),B.length = es.length → aI (hpL hp0 ν (A ++ B)) (upL ν A.length es) = hpL hp0 ν (A ++ es):=by
 intro es
 induction es with
 | nil => intro A B h; rw [List.eq_nil_of_length_eq_zero h]; rfl
 | cons e es ih =>
   intro A B h
   cases B with
   | nil => simp at h
   | cons b B =>
     show aI (upd (hpL hp0 ν (A ++ b :: B)) (ν A.length) (some e)) (upL ν (A.length + 1) es) = _
     rw [ak hN (by simp)]
     have e1 : (A ++ b :: B).set A.length e = (A ++ [e]) ++ B:=by simp
     have e2 : A.length + 1 = (A ++ [e]).length:=by simp
     rw [e1,e2,ih (A ++ [e]) B (by simpa using h)]
     simp
def AV.plain : AV → Bool
 | .c _ | .k _ | .el _ _ => true
 | _ => false
def Ent.plain : Ent → Bool
 | .box l => l.all AV.plain
 | .arr _ _ _ => true
 | _ => false
def d3 (P : Program) (f : FuncId) (args : (Nat → Nat) → List AV) (pre post nw : List Ent) (val : List Nat → AV) : Prop :=
 (∃ fn, P.funcs[f]? = some fn ∧ fn.body.isNone = false ∧ (fn.name == "runtime.NumGoroutine") = false) ∧
 ∀ φ0 hp0 ν lo w (vs : List Value),Ext hp0 → Nm hp0 ν → HC φ0 (hpL hp0 ν pre) lo w w → vs.length = (args ν).length → (∀ i,i < (args ν).length → AVC φ0 (hpL hp0 ν pre) w ((args ν).getD i .any) (vs.getD i undef)) →
  Calls P f vs.toArray w fun e w'=>∃ v,e = .returned v ∧ Out φ0 (hpL hp0 ν pre) lo w w (upL ν 0 post) nw val v w'
def gW (ks : List Nat) (val : List Nat → AV) : Prop:=∀ (hp hp' : Hp) (ρ : Nat → Nat) (ns ns' : List Nat),(∀ j,j < ks.length → ρ (ns'.getD j 0) = ns.getD j 0 ∧ ∃ e,hp' (ns'.getD j 0) = some e ∧ e.kind = ks.getD j 0) → LeV hp hp' ρ (val ns) (val ns')
theorem kf {ks : List Nat} (c : C) : gW ks fun _=>.c c:=fun _ _ _ _ _ _=>.rd (.refl c)
theorem iG {ks : List Nat} {j : Nat} (h : j < ks.length) (hk : ks.getD j 0 = 1) : gW ks fun ns=>.sl (ns.getD j 0):=fun hp hp' ρ ns ns' hh=>by
 obtain ⟨h1,e,h2,h3⟩:=hh j h
 show LeV hp hp' ρ (.sl (ns.getD j 0)) (.sl (ns'.getD j 0))
 rw [← h1]
 exact .sl h2 (by omega)
theorem iH {ks : List Nat} {j off : Nat} (h : j < ks.length) (hk : ks.getD j 0 = 0) : gW ks fun ns=>.ad (ns.getD j 0) off:=fun hp hp' ρ ns ns' hh=>by
 obtain ⟨h1,e,h2,h3⟩:=hh j h
 show LeV hp hp' ρ (.ad (ns.getD j 0) off) (.ad (ns'.getD j 0) off)
 rw [← h1]
 exact .ad h2 (by omega)
theorem gI {ks : List Nat} : gW ks fun _=>.any:=fun _ _ _ _ _ _=>.any _
theorem kg {ks : List Nat} (v : Value) : gW ks fun _=>.k v:=fun _ _ _ _ _ _=>.k v
theorem jx {hp hp' : Hp} {ρ : Nat → Nat} {a : AV} (h : a.plain = true) : LeV hp hp' ρ a a:=by
 cases a <;> first|(simp [AV.plain] at h;done)|skip
 · exact .rd (.refl _)
 · exact .k _
 · exact .el _ _
theorem kU {l : List AV} (h : l.all AV.plain = true) {i : Nat} (hi : i < l.length) : (l.getD i .any).plain = true:=by
 rw [aX hi];exact List.all_eq_true.1 h _ (List.getElem_mem hi)
theorem fW {ks : List Nat} {l : List AV} (h : l.all AV.plain = true) : gW ks fun _=>.agg l:=fun hp hp' ρ _ _ _=>.agg rfl fun i hi=>jx (kU h hi)
theorem jy {hp hp' : Hp} {ρ : Nat → Nat} {y : Nat} {e : Ent} (h : e.plain = true) (h1 : hp (ρ y) = some e) : LeE hp hp' ρ y e:=by
 cases e with
 | box l => exact ⟨l, h1, rfl, fun i hi => jx (kU h hi)⟩
 | arr T nn c => exact .inl ⟨nn, c, h1, ⟨id, id⟩, rfl⟩
 | dead => simp [Ent.plain] at h
 | ext => simp [Ent.plain] at h
def uW (ti : TI) (fn : Func) (hp0 : Hp) (ν : Nat → Nat) (k : Nat) (post nw : List Ent) (val : List Nat → AV) : ff:=fun e tm hp=>(e = .normal ∨ e = .ret) ∧ ∃ r,bS ti tm hp fn.results.toList = some r ∧
 ∃ s L,hp = hpL hp0 ν L ∧ LEs hp0 ν s L (post ++ nw) 0 (post ++ nw) ∧ leK s (post ++ nw) k = true ∧ LV hp0 ν s L (post ++ nw) r (val (nmL ν post.length nw))
theorem pg (ν : Nat → Nat) : ∀ (l : List Ent) (n j : Nat),j < l.length → (nmL ν n l).getD j 0 = ν (n + j):=by
 intro l
 induction l with
 | nil => intro n j h; simp at h
 | cons e l ih =>
   intro n j h
   cases j with
   | zero => rfl
   | succ j => rw [nmL, List.getD_cons_succ, ih (n + 1) j (by simpa using h), Nat.add_assoc, Nat.add_comm 1 j]
section
variable {P : Program} {ti : TI}
theorem nO {hp0 : Hp} {ν : Nat → Nat} (hX : Ext hp0) (hN : Nm hp0 ν) {pre post nw : List Ent} {val : List Nat → AV} (hlen : pre.length = post.length) (hpl : post.all Ent.plain = true) (hnw : nw.all Ent.plain = true) (hval : gW (nw.map Ent.kind) val)
  {lo : Nat} {w0 w w1 : World} {φ0 φ1 : Nat → Loc} {v : Value} (H : HC φ1 (hpL hp0 ν (post ++ nw)) lo w0 w) (EV : Evo φ0 (hpL hp0 ν pre) w1 φ1 (hpL hp0 ν (post ++ nw)) w) (hr : AVC φ1 (hpL hp0 ν (post ++ nw)) w (val (nmL ν post.length nw)) v)
  (νs : List Nat) (n1 : νs.length = nw.length) (n2 : νs.Nodup) (n3 : ∀ x,x ∈ νs → hpL hp0 ν pre x = none) :
  ∃ φ',HC φ' (bt (aI (hpL hp0 ν pre) (upL ν 0 post)) νs nw) lo w0 w ∧ Evo φ0 (hpL hp0 ν pre) w1 φ' (bt (aI (hpL hp0 ν pre) (upL ν 0 post)) νs nw) w ∧ AVC φ' (bt (aI (hpL hp0 ν pre) (upL ν 0 post)) νs nw) w (val νs) v:=by
 rw [show aI (hpL hp0 ν pre) (upL ν 0 post) = hpL hp0 ν post from kT hN post [] pre hlen]
 have hkind : ∀ i (e : Ent),nw[i]? = some e → e.plain = true:=fun i e h=>List.all_eq_true.1 hnw e (List.mem_of_getElem? h)
 let ρ : Nat → Nat:=fun y=>if y ∈ νs then ν (post.length + νs.idxOf y) else y
 have r1 : ∀ y,y ∈ νs → ρ y = ν (post.length + νs.idxOf y):=fun y h=>if_pos h
 have r2 : ∀ y,¬ y ∈ νs → ρ y = y:=fun y h=>if_neg h
 have f1 : ∀ y,y ∈ νs → ∃ j,j < nw.length ∧ νs.idxOf y = j ∧ bt (hpL hp0 ν post) νs nw y = nw[j]?:=fun y hy=>by
  obtain ⟨h1,h2⟩:=cP hy
  refine ⟨_,by omega,rfl,?_⟩
  have:=dh (hp:=hpL hp0 ν post) n1 n2 h1
  rw [h2] at this
  rw [this,aX (by omega),List.getElem?_eq_getElem (by omega)]
 have f2 : ∀ y,¬ y ∈ νs → bt (hpL hp0 ν post) νs nw y = hpL hp0 ν post y:=fun y hy=>cV hy
 have old : ∀ y,y ∈ νs → ∀ i,i < post.length → y ≠ ν i:=fun y hy i hi e=>by
  have:=n3 y hy
  rw [e,ah hN,List.getElem?_eq_getElem (by omega)] at this
  cases this
 have g1 : ∀ i e,(post ++ nw)[i]? = some e → hpL hp0 ν (post ++ nw) (ν i) = some e:=fun i e h=>by rw [ah hN];exact h
 have hE : ∀ y e',bt (hpL hp0 ν post) νs nw y = some e' → LeE (hpL hp0 ν (post ++ nw)) (bt (hpL hp0 ν post) νs nw) ρ y e':=by
  intro y e' h
  by_cases hy : y ∈ νs
  · obtain ⟨j,h1,h2,h3⟩:=f1 y hy
    rw [h3] at h
    exact jy (hkind j e' h) (by rw [r1 y hy,h2];exact g1 _ _ (by rw [List.getElem?_append_right (by omega)];simpa using h))
  · rw [f2 y hy] at h
    by_cases hi : ∃ i,y = ν i
    · obtain ⟨i,rfl⟩:=hi
      rw [ah hN] at h
      have hil : i < post.length:=by
       rcases Nat.lt_or_ge i post.length with h'|h'
       · exact h'
       · rw [List.getElem?_eq_none h'] at h;cases h
      have h':=g1 i e' (by rw [List.getElem?_append_left hil];exact h)
      have hp:=List.all_eq_true.1 hpl e' (List.mem_of_getElem? h)
      exact jy hp (by rw [r2 _ hy];exact h')
    · have hi' : ∀ i,y ≠ ν i:=fun i e=>hi ⟨i,e⟩
      rw [co hi'] at h
      have:=jR (hX y e' h)
      subst this
      show hpL hp0 ν (post ++ nw) (ρ y) = _
      rw [r2 y hy,co hi'];exact h
 have key : HC (eY φ1 (hpL hp0 ν (post ++ nw)) ρ) (bt (hpL hp0 ν post) νs nw) lo w0 w ∧ Evo φ0 (hpL hp0 ν pre) w1 (eY φ1 (hpL hp0 ν (post ++ nw)) ρ) (bt (hpL hp0 ν post) νs nw) w:=by
  refine kb ρ (fun x y e e' hx hy hxy=>?_) (fun y e hy=>?_) (fun hf=>?_) hE H EV
  · by_cases hx' : x ∈ νs <;> by_cases hy' : y ∈ νs
    · rw [r1 x hx',r1 y hy'] at hxy
      have:=hN.inj _ _ hxy
      obtain ⟨_,a2⟩:=cP hx'
      obtain ⟨_,b2⟩:=cP hy'
      rw [← a2,← b2,show νs.idxOf x = νs.idxOf y by omega]
    · rw [r1 x hx',r2 y hy'] at hxy
      rw [f2 y hy',← hxy,ah hN,List.getElem?_eq_none (by omega)] at hy
      cases hy
    · rw [r2 x hx',r1 y hy'] at hxy
      rw [f2 x hx',hxy,ah hN,List.getElem?_eq_none (by omega)] at hx
      cases hx
    · rwa [r2 x hx',r2 y hy'] at hxy
  · have hy' : ¬ y ∈ νs:=fun h=>by rw [n3 y h] at hy;cases hy
    refine ⟨r2 y hy',?_⟩
    rw [f2 y hy']
    by_cases hi : ∃ i,y = ν i
    · obtain ⟨i,rfl⟩:=hi
      rw [ah hN] at hy ⊢
      have hil : i < post.length:=by
       rcases Nat.lt_or_ge i pre.length with h'|h'
       · omega
       · rw [List.getElem?_eq_none h'] at hy;cases hy
      refine ⟨post[i],List.getElem?_eq_getElem hil,fun hk=>?_⟩
      have hp:=List.all_eq_true.1 hpl _ (List.getElem_mem hil)
      revert hk hp
      cases post[i] <;> simp [Ent.plain,Ent.kind]
    · have hi' : ∀ i,y ≠ ν i:=fun i e=>hi ⟨i,e⟩
      rw [co hi'] at hy ⊢
      exact ⟨e,hy,fun h=>by have:=hX y e hy;omega⟩
  · rw [dp];exact eb (ic hN hf) _
 obtain ⟨h1,h2⟩:=key
 refine ⟨_,h1,h2,j9 H hE (hval _ _ _ _ _ fun j hj=>?_) hr⟩
 have hj' : j < nw.length:=by simpa using hj
 have hm : νs.getD j 0 ∈ νs:=by rw [aX (by omega)];exact List.getElem_mem (by omega)
 obtain ⟨j',q1,q2,q3⟩:=f1 _ hm
 rw [iD n2 (by omega)] at q2
 subst q2
 refine ⟨by rw [r1 _ hm,iD n2 (by omega),pg ν nw _ j (by simpa using hj)],_,by rw [q3,List.getElem?_eq_getElem (by simpa using hj)],?_⟩
 rw [List.getD_eq_getElem?_getD,List.getElem?_map,List.getElem?_eq_getElem (by simpa using hj)];rfl
theorem fX (hT : cU P ti) {f : FuncId} {fn : Func} {c : Code} {args : (Nat → Nat) → List AV} {pre post nw : List Ent} {val : List Nat → AV} (hf : P.funcs[f]? = some fn) (hb : fn.body = some c) (hname : (fn.name == "runtime.NumGoroutine") = false) (hNt : ∀ ν, (args ν).length.ble fn.ntmps = true)
  (hpre : pre.all Ent.plain = true) (hlen : pre.length = post.length) (hpl : post.all Ent.plain = true) (hnw : nw.all Ent.plain = true) (hval : gW (nw.map Ent.kind) val)
  (h : ∀ hp0 ν,Bs (hpL hp0 ν pre) hp0 ν pre.length → Nm hp0 ν → Aw P fn.ntmps (hpL hp0 ν pre) c (Nx P fn.ntmps (hpL hp0 ν pre) [] (uW ti fn hp0 ν pre.length post nw val)) (tmL (cG 0 (args ν))) (hpL hp0 ν pre)) : d3 P f args pre post nw val:=by
 refine ⟨⟨fn,hf,by rw [hb];rfl,hname⟩,fun φ0 hp0 ν lo w vs hX hN H hl hv=>?_⟩
 refine calls_of_wp hf hb ?_
 have hNt:=Nat.le_of_ble_eq_true (hNt ν)
 have hC : fc lo w φ0 (hpL hp0 ν pre) fn.ntmps (l7 (args ν)) (hpL hp0 ν pre) { tmps:=vs.toArray ++ Array.replicate (fn.ntmps - vs.toArray.size) undef,defers:=[] } w:=by
  refine ⟨φ0,H,Evo.refl _ _ _,fun t=>?_,rfl,by simp;omega⟩
  unfold l7
  by_cases ht : t < (args ν).length
  · have:=hv t ht
    have e : (vs.toArray ++ Array.replicate (fn.ntmps - vs.toArray.size) undef).getD t undef = vs.getD t undef:=by
     have ht' : t < vs.length:=by omega
     rw [Array.getD_eq_getD_getElem?,Array.getElem?_append,if_pos (by simpa using ht'),List.getD_eq_getElem?_getD]
     simp
    rw [e];exact this
  · rw [List.getD_eq_getElem?_getD,List.getElem?_eq_none (by omega)]
    exact .any _
 have hBs : Bs (hpL hp0 ν pre) hp0 ν pre.length:=⟨hX,fun x hx=>co hx,fun i hi=>by rw [ah hN,List.getElem?_eq_none hi],fun i e he=>by
  rw [ah hN] at he
  have hp:=List.all_eq_true.1 hpre e (List.mem_of_getElem? he)
  cases e <;> simp [Ent.plain,Ent.kind] at hp ⊢⟩
 have h1:=h hp0 ν hBs hN
 rw [← kR] at h1
 refine wp_mono (h1 _ _ _ _ _ hC) fun e a' w' ⟨tm,hp,hC',hR,r,q1,s,L,hhp,q2,q3,q4⟩=>?_
 subst hhp
 obtain ⟨φ,H',EV,ht,hd,_⟩:=hC'
 obtain ⟨v,k1,k2⟩:=fM hT H' ht q1
 have hE : ∀ y e',hpL hp0 ν (post ++ nw) y = some e' → LeE (hpL hp0 ν L) (hpL hp0 ν (post ++ nw)) (rho ν s) y e':=fun y e' hy=>by
  by_cases h1 : ∃ i,y = ν i
  · obtain ⟨i,rfl⟩:=h1
    rw [ah hN] at hy
    have:=q2.at i e' hy
    rwa [Nat.zero_add] at this
  · have h2 : ∀ i,y ≠ ν i:=fun i e=>h1 ⟨i,e⟩
    rw [co h2] at hy
    have:=jR (hX y e' hy)
    subst this
    show hpL hp0 ν L (rho ν s y) = _
    rw [ec h2,co h2];exact hy
 obtain ⟨m1,m2⟩:=kb (rho ν s) (fun x y _ _ _ _ e=>ib hN x y e) (fun y e hy=>by
  by_cases h1 : ∃ i,y = ν i
  · obtain ⟨i,rfl⟩:=h1
    have hik : i < pre.length:=by
     rcases Nat.lt_or_ge i pre.length with h'|h'
     · exact h'
     · rw [ah hN,List.getElem?_eq_none h'] at hy;cases hy
    have h2:=List.all_eq_true.1 q3 i (List.mem_range.2 hik)
    simp only [Bool.and_eq_true,beq_iff_eq,Nat.blt_eq] at h2
    refine ⟨by rw [di hN,h2.1],(post ++ nw)[i]'h2.2,by rw [ah hN,List.getElem?_eq_getElem h2.2],fun _ e3=>?_⟩
    have:=hBs.own i e hy
    omega
  · have h2 : ∀ i,y ≠ ν i:=fun i e=>h1 ⟨i,e⟩
    rw [co h2] at hy
    have h3:=hX y e hy
    exact ⟨ec h2,e,by rw [co h2];exact hy,fun h4=>by omega⟩) (ic hN) hE H' EV
 have m3:=j9 H' hE q4 k2
 have:=nO hX hN hlen hpl hnw hval m1 m2 m3
 rcases hR with rfl|rfl
 · exact ⟨hd,v,k1,v,rfl,this⟩
 · exact ⟨hd,v,k1,v,rfl,this⟩
inductive ArgM (hp : Hp) (xs : List Nat) : AV → AV → Prop where
 | v {a a' : AV} (h : ArgV hp a a') (hn : ∀ y, y ∈ a.names → ¬ y ∈ xs) : ArgM hp xs a a'
 | sl {x : Nat} (h : x ∈ xs) : ArgM hp xs (.sl x) (.sl x)
 | ad {x off : Nat} (h : x ∈ xs) : ArgM hp xs (.ad x off) (.ad x off)
 | agg {l l' : List AV} (hl : l'.length = l.length) (h : ∀ i, i < l.length → ArgM hp xs (l.getD i .any) (l'.getD i .any)) : ArgM hp xs (.agg l) (.agg l')
def nP (hp : Hp) (x : Nat) : Ent → Prop
 | .box l => hp x = some (.box l)
 | .arr T nn c => ∃ nn', hp x = some (.arr T nn' c) ∧ ((nn.nn = true → nn'.nn = true) ∧ (nn.hd = true → nn'.hd = true))
 | _ => False
theorem nP.kind {hp : Hp} {x : Nat} {e : Ent} (h : nP hp x e) : ∃ e',hp x = some e' ∧ e'.kind = e.kind ∧ e.kind < 2:=by
 cases e with
 | box l => exact ⟨_, h, rfl, by simp [Ent.kind]⟩
 | arr T nn c => obtain ⟨nn', h, _⟩ := h; exact ⟨_, h, rfl, by simp [Ent.kind]⟩
 | dead => exact h.elim
 | ext => exact h.elim
def Ent.flatB : Ent → Bool
 | .box l => jw l
 | .arr _ _ c => c.flat
 | _ => false
def iI : List Ent → List Ent → Bool
 | [], [] => true
 | a :: l, b :: m => a.kind == b.kind && iI l m
 | _, _ => false
theorem ph : ∀ {l m : List Ent},iI l m = true → l.length = m.length ∧ ∀ j,j < l.length → (l.getD j .dead).kind = (m.getD j .dead).kind:=by
 intro l
 induction l with
 | nil => intro m h; cases m with | nil => exact ⟨rfl, fun j h => by simp at h⟩ | cons => simp [iI] at h
 | cons a l ih =>
   intro m h
   cases m with
   | nil => simp [iI] at h
   | cons b m =>
     simp only [iI,Bool.and_eq_true,beq_iff_eq] at h
     obtain ⟨h1,h2⟩:=ih h.2
     refine ⟨by simp [h1],fun j hj=>?_⟩
     cases j with
     | zero => exact h.1
     | succ j => exact h2 j (by simpa using hj)
theorem gJ {φ φ' : Nat → Loc} {hp hp' : Hp} {w : World} {loc : Loc} {e : Ent} (hp1 : e.plain = true) (h : gC φ hp w loc e) (hm : (∀ b,Own φ' hp' b → Own φ hp b) ∨ e.flatB = true) : gC φ' hp' w loc e:=by
 have rd : ∀ {c v},(∀ b,Own φ' hp' b → Own φ hp b) → Rd (Own φ hp) w c v → Rd (Own φ' hp') w c v:=fun hm h=>h.mono (fun b _ hb=>⟨rfl,fun h=>hb (hm b h)⟩) (Nat.le_refl _)
 cases e with
 | box l =>
   obtain ⟨g,n,cp,wd,cur,T,h1,h2,h3,h4⟩:=h
   refine ⟨g,n,cp,wd,cur,T,h1,h2,h3,fun i hi=>?_⟩
   have k1:=List.all_eq_true.1 hp1 _ (List.getElem_mem hi)
   rw [← aX (d:=AV.any) hi] at k1
   have k2:=h4 i hi
   have k3 : (∀ b,Own φ' hp' b → Own φ hp b) ∨ (l.getD i .any).flat = true:=hm.imp id fun h=>eH h hi
   revert k1 k2 k3
   generalize l.getD i .any = a
   generalize cur.getD i undef = u
   intro k1 k2 k3
   cases a <;> first|(simp [AV.plain] at k1;done)|skip
   · refine .c ?_
     rcases k3 with k3|k3
     · exact rd k3 (db k2)
     · exact gm k3 (db k2)
   · cases k2;exact .k _
   · rcases k3 with k3|k3
     · cases k2 with|el hc hr hO hb=>exact .el hc (fun j hj=>rd k3 (hr j hj)) (fun h=>hO (k3 _ h)) hb
     · simp [AV.flat] at k3
 | arr T nn c =>
   obtain ⟨V,hv,hnn,k|⟨g,o,cp,cur,k1,k2,k3,k4,k5,kh,k6⟩⟩:=h
   · exact ⟨V,hv,hnn,.inl k⟩
   · refine ⟨V,hv,hnn,.inr ⟨g,o,cp,cur,k1,k2,k3,k4,k5,kh,fun i hi j hj=>?_⟩⟩
     obtain ⟨u,m1,m2⟩:=k6 i hi j hj
     refine ⟨u,m1,?_⟩
     rcases hm with hm|hm
     · exact rd hm m2
     · exact gm (mR hm hv i j) m2
 | dead => simp [Ent.plain] at hp1
 | ext => simp [Ent.plain] at hp1
theorem md {φ : Nat → Loc} {hp hp1 hp' : Hp} {lo : Nat} {w0 w : World} {S xs : List Nat} (H : HC φ hp1 lo w0 w) (own : ∀ b,Own φ hp' b → ∃ y,bW hp1 y ∧ (φ y).blk = some b ∧ (y ∈ xs ∨ ¬ y ∈ S)) (hx : ∀ x,x ∈ xs → ∃ e e',hp1 x = some e ∧ hp' x = some e' ∧ e'.kind = e.kind ∧ e.kind < 2)
  {a a' : AV} {v : Value} (h : ArgM hp xs a a') (hs : ∀ ν,ν ∈ a.names → hp1 ν = hp ν ∧ ν ∈ S) (hv : AVC φ hp1 w a v) : AVC φ hp' w a' v:=by
 induction h generalizing v with
 | @v a a' h hn =>
   refine iE (S:=S.filter fun y=>!decide (y ∈ xs)) H (fun b hb=>?_) h (fun y hy=>⟨(hs y hy).1,?_⟩) hv
   · obtain ⟨y,h1,h2,h3⟩:=own b hb
     refine ⟨y,h1,h2,fun h4=>?_⟩
     rw [List.mem_filter] at h4
     rcases h3 with h3|h3
     · simp [h3] at h4
     · exact h3 h4.1
   · rw [List.mem_filter]
     exact ⟨(hs y hy).2,by simp [hn y hy]⟩
 | @sl x h =>
   obtain ⟨e,e',h1,h2,h3,h4⟩:=hx x h
   cases hv with
   | sl k1 k2 => rw [h1] at k1; injection k1 with k1; subst k1; exact .sl h2 (by omega)
   | sld k1 k2 => rw [h1] at k1; injection k1 with k1; subst k1; omega
 | @ad x off h =>
   obtain ⟨e,e',h1,h2,h3,h4⟩:=hx x h
   cases hv with
   | ad k1 k2 k3 => rw [h1] at k1; injection k1 with k1; subst k1; exact .ad h2 (by omega) k3
   | add k1 k2 => rw [h1] at k1; injection k1 with k1; subst k1; omega
 | agg hl _ ih =>
   obtain ⟨vs,rfl,h1,h2⟩:=eT hv
   refine .agg (by omega) fun i hi=>ih i (by omega) (fun ν hν=>hs ν ?_) (h2 i (by omega))
   simp only [AV.names]
   have hi':=Nat.lt_of_lt_of_le hi (Nat.le_of_eq hl)
   rw [aX hi'] at hν
   exact cO (List.getElem_mem hi') hν
set_option maxHeartbeats 1000000 in

theorem pi {f : FuncId} {args : (Nat → Nat) → List AV} {pre post nw : List Ent} {val : List Nat → AV} (hF : d3 P f args pre post nw val) {hp : Hp} {avs : List AV} (xs : List Nat) (hxl : xs.length = pre.length) (hxn : xs.Nodup) (hsub : ∀ x,x ∈ xs → x ∈ au avs)
  (hpre : ∀ j,j < pre.length → nP hp (xs.getD j 0) (pre.getD j .dead)) (hpp : pre.all Ent.plain = true) (hpl : post.all Ent.plain = true) (hsk : iI pre post = true) (hk : nw.all Ent.plain = true)
  (hA : ∀ ν' : Nat → Nat,(∀ j,j < pre.length → ν' j = xs.getD j 0) → (args ν').length = avs.length ∧ ∀ i,i < avs.length → ArgM hp xs (avs.getD i .any) ((args ν').getD i .any))
  (hcase : (∀ y,y ∈ au avs → y ∈ xs) ∨ (nw.all Ent.flat = true ∧ post.all Ent.flatB = true ∧ ∀ ν,(val ν).flat = true)) : b9 P f avs hp ⟨True,nw,xs.zip post,val⟩:=by
 obtain ⟨hcall,hspec⟩:=hF
 obtain ⟨hlen,hkd⟩:=ph hsk
 refine ⟨hcall,fun φ hp1 lo w0 w vs hsame H hl hv=>?_⟩
 obtain ⟨B,hB⟩:=H.fin
 have hx0 : ∀ x,x ∈ xs → ∃ j,j < pre.length ∧ xs.idxOf x = j ∧ xs.getD j 0 = x:=fun x hx=>by
  obtain ⟨h1,h2⟩:=cP hx
  exact ⟨_,by omega,rfl,h2⟩
 have hxm : ∀ j,j < pre.length → xs.getD j 0 ∈ xs:=fun j hj=>by rw [aX (by omega)];exact List.getElem_mem (by omega)
 have hpre1 : ∀ j,j < pre.length → nP hp1 (xs.getD j 0) (pre.getD j .dead):=fun j hj=>by
  have h1:=hpre j hj
  have h2:=hsame _ (hsub _ (hxm j hj))
  revert h1
  cases pre.getD j .dead <;> simp only [nP,h2] <;> exact id
 have hxs : ∀ x,x ∈ xs → ∃ e,hp1 x = some e ∧ e.kind < 2:=fun x hx=>by
  obtain ⟨j,h1,_,h3⟩:=hx0 x hx
  obtain ⟨e',k1,k2,k3⟩:=(hpre1 j h1).kind
  rw [h3] at k1
  exact ⟨e',k1,by omega⟩
 have hxB : ∀ x,x ∈ xs → x < B:=fun x hx=>by
  obtain ⟨e,h1,_⟩:=hxs x hx
  rcases Nat.lt_or_ge x B with h|h
  · exact h
  · rw [hB x h] at h1;cases h1
 have hex : ∀ x,x ∈ xs → ck hp1 (au avs) x = none:=fun x hx=>by unfold ck;rw [if_pos (hsub x hx)]
 let ν' : Nat → Nat:=fun i=>if i < pre.length then xs.getD i 0 else B + i
 have v1 : ∀ i,i < pre.length → ν' i = xs.getD i 0:=fun i h=>if_pos h
 have v2 : ∀ i,¬ i < pre.length → ν' i = B + i:=fun i h=>if_neg h
 have hN : Nm (ck hp1 (au avs)) ν':=by
  refine ⟨fun i j e=>?_,fun i=>?_⟩
  · by_cases hi : i < pre.length <;> by_cases hj : j < pre.length
    · rw [v1 i hi,v1 j hj,aX (by omega),aX (by omega)] at e
      exact (List.getElem_inj (h₀:=by omega) (h₁:=by omega) hxn).1 e
    · rw [v1 i hi,v2 j hj] at e
      have:=hxB _ (hxm i hi);omega
    · rw [v2 i hi,v1 j hj] at e
      have:=hxB _ (hxm j hj);omega
    · rw [v2 i hi,v2 j hj] at e;omega
  · by_cases hi : i < pre.length
    · rw [v1 i hi];exact hex _ (hxm i hi)
    · rw [v2 i hi];unfold ck;rw [hB _ (by omega)];split <;> rfl
 have c1 : ∀ (L : List Ent) j,j < pre.length → hpL (ck hp1 (au avs)) ν' L (xs.getD j 0) = L[j]?:=fun L j hj=>by rw [← v1 j hj,ah hN]
 have c2 : ∀ (L : List Ent),L.length = pre.length → ∀ y,¬ y ∈ xs → hpL (ck hp1 (au avs)) ν' L y = ck hp1 (au avs) y:=fun L hL y hy=>by
  by_cases h : ∃ i,y = ν' i
  · obtain ⟨i,rfl⟩:=h
    have hi : ¬ i < pre.length:=fun hi=>hy (by rw [v1 i hi];exact hxm i hi)
    rw [ah hN,hN.out,List.getElem?_eq_none (by omega)]
  · exact co fun i e=>h ⟨i,e⟩
 have c3 : ∀ x,x ∈ xs → ∃ j,j < pre.length ∧ xs.getD j 0 = x ∧ (∀ L : List Ent,hpL (ck hp1 (au avs)) ν' L x = L[j]?):=fun x hx=>by
  obtain ⟨j,h1,_,h3⟩:=hx0 x hx
  exact ⟨j,h1,h3,fun L=>by rw [← h3];exact c1 L j h1⟩
 have pget : ∀ j,j < pre.length → pre[j]? = some (pre.getD j .dead):=fun j hj=>by rw [List.getElem?_eq_getElem hj,aX hj]
 have qget : ∀ j,j < pre.length → post[j]? = some (post.getD j .dead):=fun j hj=>by rw [List.getElem?_eq_getElem (by omega),aX (by omega)]
 have ckind : ∀ j,j < pre.length → (pre.getD j .dead).kind < 2:=fun j hj=>let ⟨_,_,_,h⟩:=(hpre1 j hj).kind;h
 have live : ∀ y,bW (hpL (ck hp1 (au avs)) ν' pre) y → bW hp1 y ∧ (y ∈ xs ∨ ¬ y ∈ au avs):=fun y hy=>by
  by_cases h : y ∈ xs
  · obtain ⟨e,k1,k2⟩:=hxs y h
    exact ⟨⟨e,k1,by omega⟩,.inl h⟩
  · obtain ⟨e,h1,h2⟩:=hy
    rw [c2 pre rfl y h] at h1
    obtain ⟨_,k1,k2⟩:=cW h1
    exact ⟨k2,.inr k1⟩
 have own : ∀ b,Own φ (hpL (ck hp1 (au avs)) ν' pre) b → ∃ y,bW hp1 y ∧ (φ y).blk = some b ∧ (y ∈ xs ∨ ¬ y ∈ au avs):=fun b ⟨y,h1,h2⟩=>let ⟨k1,k2⟩:=live y h1;⟨y,k1,h2,k2⟩
 have own' : ∀ b,Own φ (hpL (ck hp1 (au avs)) ν' pre) b → Own φ hp1 b:=fun b h=>let ⟨y,k1,k2,_⟩:=own b h;⟨y,k1,k2⟩
 have Hc : HC φ (hpL (ck hp1 (au avs)) ν' pre) lo w w:=by
  refine ⟨Below.refl _ _,H.l0,ic (L:=[]) hN ?_,fun y e hy=>?_,fun y y' b hne h1 h2 h3=>H.sep y y' b hne (live y h1).1 (live y' h2).1 h3,fun y b h1 h2=>?_⟩
  · rw [mS hN]
    exact ⟨B,fun x hx=>by unfold ck;rw [hB x hx];split <;> rfl⟩
  · by_cases h : y ∈ xs
    · obtain ⟨j,h1,h2,h3⟩:=c3 y h
      rw [h3,pget j h1] at hy
      injection hy with hy
      have hP:=hpre1 j h1
      rw [h2,hy] at hP
      have hpl1:=List.all_eq_true.1 hpp e (by rw [← hy,aX h1];exact List.getElem_mem h1)
      refine gJ (φ:=φ) (hp:=hp1) hpl1 ?_ (.inl own')
      cases e with
      | box l => exact H.ent y _ hP
      | arr T nn c =>
        obtain ⟨nn',k1,k2⟩:=hP
        obtain ⟨V,hv',hnn,⟨m1,m2,m3⟩|⟨g,o,cp,cur,m1,m2,m3,m4,m5,mh,m6⟩⟩:=H.ent y _ k1
        · exact ⟨V,hv',hnn,.inl ⟨m1,m2,by cases hq : nn.nn with|false=>rfl|true=>rw [k2.1 hq] at m3;cases m3⟩⟩
        · exact ⟨V,hv',hnn,.inr ⟨g,o,cp,cur,m1,m2,m3,m4,m5,fun e=>mh (k2.2 e),m6⟩⟩
      | dead => exact hP.elim
      | ext => exact hP.elim
    · rw [c2 pre rfl y h] at hy
      obtain ⟨rfl,h1,h2⟩:=cW hy
      exact fun b hb=>H.lt h2 hb
  · obtain ⟨e,k1,k2⟩:=h1
    by_cases h : y ∈ xs
    · obtain ⟨e',q1,q2⟩:=hxs y h
      exact H.lo y b ⟨e',q1,q2⟩ h2
    · rw [c2 pre rfl y h] at k1
      obtain ⟨rfl,_⟩:=cW k1
      simp [Ent.kind] at k2
 obtain ⟨ha1,ha2⟩:=hA ν' v1
 have hargs : ∀ i,i < (args ν').length → AVC φ (hpL (ck hp1 (au avs)) ν' pre) w ((args ν').getD i .any) (vs.getD i undef):=by
  intro i hi
  have hi' : i < avs.length:=by omega
  refine md H own (fun x hx=>?_) (ha2 i hi') (fun y hy=>?_) (hv i hi')
  · obtain ⟨j,h1,h2,h3⟩:=c3 x hx
    obtain ⟨e',k1,k2,k3⟩:=(hpre1 j h1).kind
    rw [h2] at k1
    exact ⟨e',_,k1,by rw [h3,pget j h1],k2.symm,by omega⟩
  · have : y ∈ au avs:=by rw [aX hi'] at hy;exact cO (List.getElem_mem hi') hy
    exact ⟨hsame y this,this⟩
 refine (hspec φ _ ν' lo w vs (kQ _ _) hN Hc (by omega) hargs).mono fun e w' ⟨v,he,hO⟩=>⟨v,he,fun νs n1 n2 n3=>?_⟩
 have n1 : νs.length = nw.length:=n1
 have n4 : ∀ x,x ∈ νs → ¬ x ∈ xs:=fun x hx h=>by obtain ⟨e,k1,_⟩:=hxs x h;rw [n3 x hx] at k1;cases k1
 obtain ⟨φ1,K,EV,hr⟩:=hO νs n1 n2 (fun x hx=>by
  rw [c2 pre rfl x (n4 x hx)];unfold ck;rw [n3 x hx];split <;> rfl)
 rw [show aI (hpL (ck hp1 (au avs)) ν' pre) (upL ν' 0 post) = hpL (ck hp1 (au avs)) ν' post from kT hN post [] pre hlen] at K EV hr
 generalize hF' : bt (hpL (ck hp1 (au avs)) ν' post) νs nw = hpF at K EV hr
 have F1 : ∀ y,y ∈ νs → hpF y = some (nw.getD (νs.idxOf y) .dead) ∧ νs.idxOf y < nw.length:=fun y hy=>by
  obtain ⟨h1,h2⟩:=cP hy
  have:=dh (hp:=hpL (ck hp1 (au avs)) ν' post) n1 n2 h1
  rw [h2,hF'] at this
  exact ⟨this,by omega⟩
 have F2 : ∀ y,¬ y ∈ νs → hpF y = hpL (ck hp1 (au avs)) ν' post y:=fun y hy=>by rw [← hF'];exact cV hy
 have hupx : aI hp1 (xs.zip post) = bt hp1 xs post:=(dp hp1 xs post).symm
 have F3 : ∀ x,x ∈ xs → ∃ j,j < pre.length ∧ xs.getD j 0 = x ∧ hpF x = some (post.getD j .dead) ∧ bt (aI hp1 (xs.zip post)) νs nw x = some (post.getD j .dead):=fun x hx=>by
  obtain ⟨j,h1,h2,h3⟩:=c3 x hx
  have hn : ¬ x ∈ νs:=fun h=>n4 x h hx
  refine ⟨j,h1,h2,by rw [F2 x hn,h3,qget j h1],?_⟩
  rw [cV hn,hupx,← h2]
  exact dh (by omega) hxn (by omega)
 have F4 : ∀ y,¬ y ∈ νs → ¬ y ∈ xs → hpF y = ck hp1 (au avs) y ∧ bt (aI hp1 (xs.zip post)) νs nw y = hp1 y:=fun y h1 h2 =>
  ⟨by rw [F2 y h1];exact c2 post (by omega) y h2,by rw [cV h1,hupx,cV h2]⟩
 have F5 : ∀ y,y ∈ νs → bt (aI hp1 (xs.zip post)) νs nw y = hpF y:=fun y hy=>by
  obtain ⟨h1,h2⟩:=cP hy
  have:=dh (hp:=aI hp1 (xs.zip post)) n1 n2 h1
  rw [h2] at this
  rw [this,(F1 y hy).1]
 have pkind : ∀ j,j < pre.length → (post.getD j .dead).kind < 2:=fun j hj=>by rw [← hkd j hj];exact ckind j hj
 have locx : ∀ x,x ∈ xs → φ1 x = φ x:=fun x hx=>by
  obtain ⟨j,h1,h2,h3,_⟩:=F3 x hx
  have h4:=c1 pre j h1
  rw [h2,pget j h1] at h4
  obtain ⟨e',k1,⟨k2,_⟩|⟨_,k3⟩⟩:=EV.nm x _ h4
  · rw [h3] at k1;injection k1 with k1;subst k1
    have:=pkind j h1;omega
  · exact k3
 have loce : ∀ y,¬ y ∈ au avs → bW hp1 y → hpF y = some .ext ∧ φ1 y = φ y ∧ hpL (ck hp1 (au avs)) ν' pre y = some .ext:=fun y h1 h2=>by
  have hyx : ¬ y ∈ xs:=fun h=>h1 (hsub y h)
  have h3 : hpL (ck hp1 (au avs)) ν' pre y = some .ext:=by rw [c2 pre rfl y hyx];exact mQ h1 h2
  obtain ⟨e',k1,⟨_,k2⟩|⟨k2,k3⟩⟩:=EV.nm y _ h3
  · exact absurd rfl k2
  · exact ⟨by rw [k1,jR k2],k3,h3⟩
 have hpF_live : ∀ x,x ∈ xs → bW hpF x:=fun x hx=>by
  obtain ⟨j,h1,h2,h3,_⟩:=F3 x hx
  exact ⟨_,h3,by have:=pkind j h1;omega⟩
 have keep : ∀ y b,¬ y ∈ xs → bW hp1 y → (φ y).blk = some b → w'.heap[b]? = w.heap[b]?:=fun y b h1 h2 h3=>by
  have hb:=H.lt h2 h3
  by_cases hs : y ∈ au avs
  · refine (EV.bl b hb fun ho=>?_).1
    obtain ⟨z,k1,k2,k3⟩:=own b ho
    refine H.sep y z b (fun e=>?_) h2 k1 h3 k2
    subst e
    exact k3.elim h1 fun h=>h hs
  · exact EV.ex b hb ⟨y,(loce y hs h2).2.2,h3⟩
 have newblk : ∀ y,y ∈ νs → bW hpF y → ∀ b,(φ1 y).blk = some b → w.heap.size ≤ b:=fun y hy hL b hb=>by
  refine Nat.le_of_not_lt fun hlt=>?_
  by_cases ho : Own φ (hpL (ck hp1 (au avs)) ν' pre) b
  · obtain ⟨z,k1,k2,k3⟩:=own b ho
    by_cases hz : z ∈ xs
    · exact K.sep y z b (fun e=>n4 y hy (by rw [e];exact hz)) hL (hpF_live z hz) hb (by rw [locx z hz];exact k2)
    · have hzs:=k3.resolve_left hz
      obtain ⟨q1,q2,_⟩:=loce z hzs k1
      refine K.sep y z b (fun e=>?_) hL ⟨_,q1,by simp [Ent.kind]⟩ hb (by rw [q2];exact k2)
      obtain ⟨e0,m1,_⟩:=k1
      rw [← e,n3 y hy] at m1;cases m1
  · exact (EV.bl b hlt ho).2 ⟨y,hL,hb⟩
 let φ2 : Nat → Loc:=fun y=>if y ∈ νs then φ1 y else φ y
 have p1 : ∀ y,y ∈ νs → φ2 y = φ1 y:=fun y h=>if_pos h
 have p2 : ∀ y,¬ y ∈ νs → φ2 y = φ y:=fun y h=>if_neg h
 have lv : ∀ y,¬ y ∈ νs → bW (bt (aI hp1 (xs.zip post)) νs nw) y → bW hp1 y:=fun y h1 h2=>by
  by_cases h : y ∈ xs
  · obtain ⟨e,k1,k2⟩:=hxs y h
    exact ⟨e,k1,by omega⟩
  · obtain ⟨e,k1,k2⟩:=h2
    rw [(F4 y h1 h).2] at k1
    exact ⟨e,k1,k2⟩
 have lvn : ∀ y,y ∈ νs → bW (bt (aI hp1 (xs.zip post)) νs nw) y → bW hpF y:=fun y hy ⟨e,h1,h2⟩=>⟨e,by rw [← F5 y hy];exact h1,h2⟩
 have hcases : (∀ b,Own φ2 (bt (aI hp1 (xs.zip post)) νs nw) b → Own φ1 hpF b) ∨ (nw.all Ent.flat = true ∧ post.all Ent.flatB = true ∧ (val νs).flat = true):=by
  rcases hcase with hc|⟨h1,h2,h3⟩
  · refine .inl ?_
    rintro b ⟨y,y1,y2⟩
    by_cases hy : y ∈ νs
    · rw [p1 y hy] at y2
      exact ⟨y,lvn y hy y1,y2⟩
    · rw [p2 y hy] at y2
      by_cases hx : y ∈ xs
      · exact ⟨y,hpF_live y hx,by rw [locx y hx];exact y2⟩
      · obtain ⟨q1,q2,_⟩:=loce y (fun h=>hx (hc y h)) (lv y hy y1)
        exact ⟨y,⟨_,q1,by simp [Ent.kind]⟩,by rw [q2];exact y2⟩
  · exact .inr ⟨h1,h2,h3 νs⟩
 have E : Evo φ hp1 w φ2 (bt (aI hp1 (xs.zip post)) νs nw) w':=by
  refine ⟨fun y e hy=>?_,fun b hb ho=>⟨(EV.bl b hb fun h=>ho (own' b h)).1,fun ⟨y,y1,y2⟩=>?_⟩,EV.sz,fun b hb ⟨y,y1,y2⟩=>?_⟩
  · have hyν : ¬ y ∈ νs:=fun h=>by rw [n3 y h] at hy;cases hy
    rw [p2 y hyν]
    by_cases hx : y ∈ xs
    · obtain ⟨j,h1,h2,h3,h4⟩:=F3 y hx
      refine ⟨_,h4,.inr ⟨?_,rfl⟩⟩
      obtain ⟨e',k1,k2,k3⟩:=(hpre1 j h1).kind
      rw [h2,hy] at k1;injection k1 with k1;subst k1
      rw [← hkd j h1];exact k2.symm
    · exact ⟨e,by rw [(F4 y hyν hx).2];exact hy,.inr ⟨rfl,rfl⟩⟩
  · by_cases hy : y ∈ νs
    · rw [p1 y hy] at y2
      have:=newblk y hy (lvn y hy y1) b y2
      omega
    · rw [p2 y hy] at y2
      exact ho ⟨y,lv y hy y1,y2⟩
  · refine keep y b (fun h=>?_) ⟨_,y1,by simp [Ent.kind]⟩ y2
    obtain ⟨e,k1,k2⟩:=hxs y h
    rw [y1] at k1;injection k1 with k1;subst k1;simp [Ent.kind] at k2
 show ∃ φ',HC φ' (bt (aI hp1 (xs.zip post)) νs nw) lo w0 w' ∧ Evo φ hp1 w φ' (bt (aI hp1 (xs.zip post)) νs nw) w' ∧ AVC φ' (bt (aI hp1 (xs.zip post)) νs nw) w' (val νs) v
 generalize hG : bt (aI hp1 (xs.zip post)) νs nw = hpG at *
 refine ⟨φ2,⟨H.fr.trans K.fr,Nat.le_trans H.l0 EV.sz,?_,fun y e hy=>?_,fun y y' b hne h1 h2 h3 h4=>?_,fun y b h1 h2=>?_⟩,E,?_⟩
 · rw [← hG,dp];exact eb (eb H.fin _) _
 · by_cases hyν : y ∈ νs
   · rw [F5 y hyν] at hy
     rw [p1 y hyν]
     have h1:=K.ent y e hy
     obtain ⟨h2,h3⟩:=F1 y hyν
     rw [h2] at hy;injection hy with hy
     have hm : e ∈ nw:=by rw [← hy,aX h3];exact List.getElem_mem h3
     refine gJ (List.all_eq_true.1 hk e hm) h1 (hcases.imp id fun h=>?_)
     have:=List.all_eq_true.1 h.1 e hm
     cases e <;> first|exact this|(simp [Ent.flat] at this)
   · rw [p2 y hyν]
     by_cases hx : y ∈ xs
     · obtain ⟨j,h1,h2,h3,h4⟩:=F3 y hx
       rw [h4] at hy;injection hy with hy
       have h5:=K.ent y _ h3
       rw [locx y hx,hy] at h5
       have hm : e ∈ post:=by rw [← hy,aX (by omega)];exact List.getElem_mem (by omega)
       exact gJ (List.all_eq_true.1 hpl e hm) h5 (hcases.imp id fun h=>List.all_eq_true.1 h.2.1 e hm)
     · rw [(F4 y hyν hx).2] at hy
       exact (H.ent y e hy).evo E fun hk b hb=>keep y b hx ⟨e,hy,hk⟩ hb
 · by_cases hy : y ∈ νs <;> by_cases hy' : y' ∈ νs
   · rw [p1 y hy] at h3;rw [p1 y' hy'] at h4
     exact K.sep y y' b hne (lvn y hy h1) (lvn y' hy' h2) h3 h4
   · rw [p1 y hy] at h3;rw [p2 y' hy'] at h4
     have:=newblk y hy (lvn y hy h1) b h3
     have:=H.lt (lv y' hy' h2) h4
     omega
   · rw [p2 y hy] at h3;rw [p1 y' hy'] at h4
     have:=newblk y' hy' (lvn y' hy' h2) b h4
     have:=H.lt (lv y hy h1) h3
     omega
   · rw [p2 y hy] at h3;rw [p2 y' hy'] at h4
     exact H.sep y y' b hne (lv y hy h1) (lv y' hy' h2) h3 h4
 · by_cases hy : y ∈ νs
   · rw [p1 y hy] at h2
     have:=newblk y hy (lvn y hy h1.live) b h2
     have:=H.l0
     omega
   · rw [p2 y hy] at h2
     by_cases hx : y ∈ xs
     · obtain ⟨e,k1,k2⟩:=hxs y hx
       exact H.lo y b ⟨e,k1,k2⟩ h2
     · obtain ⟨e,k1,k2⟩:=h1
       rw [(F4 y hy hx).2] at k1
       exact H.lo y b ⟨e,k1,k2⟩ h2
 · have eqs : ∀ y e,hpF y = some e → e.kind ≠ 3 → hpG y = some e ∧ φ2 y = φ1 y:=by
    intro y e h1 h2
    by_cases hy : y ∈ νs
    · exact ⟨by rw [F5 y hy];exact h1,p1 y hy⟩
    · by_cases hx : y ∈ xs
      · obtain ⟨j,k1,k2,k3,k4⟩:=F3 y hx
        exact ⟨by rw [k4,← k3];exact h1,by rw [p2 y hy,locx y hx]⟩
      · rw [(F4 y hy hx).1] at h1
        obtain ⟨rfl,_⟩:=cW h1
        exact absurd rfl h2
   have gen : ∀ {a v},AVC φ1 hpF w' a v → ((∀ b,Own φ2 hpG b → Own φ1 hpF b) ∨ a.flat = true) → AVC φ2 hpG w' a v:=by
    intro a v h hc
    induction h with
    | any v => exact .any v
    | c h =>
      rcases hc with hc|hc
      · exact .c (h.mono (fun b _ hb=>⟨rfl,fun h=>hb (hc b h)⟩) (Nat.le_refl _))
      · exact .c (gm hc h)
    | k v => exact .k v
    | @sl y e h hk' =>
      obtain ⟨h1,h2⟩:=eqs y e h (by omega)
      rw [← h2]
      exact .sl h1 hk'
    | @sld y e h hk' v hone => exact .sld (eqs y e h (by omega)).1 hk' _ hone
    | @ad y off g n cp wd e h hk' hl =>
      obtain ⟨h1,h2⟩:=eqs y e h (by omega)
      exact .ad h1 hk' (by rw [h2];exact hl)
    | @add y off e h hk' v hone => exact .add (eqs y e h (by omega)).1 hk' _ hone
    | @ea y i j g o n cp wd e h hk' hl =>
      obtain ⟨h1,h2⟩:=eqs y e h (by omega)
      exact .ea h1 hk' (by rw [h2];exact hl)
    | @ead y i j e h hk' v hone => exact .ead (eqs y e h (by omega)).1 hk' _ hone
    | el hc' hr hO hb =>
      rcases hc with hc|hc
      · exact .el hc' (fun j hj=>(hr j hj).mono (fun b _ hb=>⟨rfl,fun h=>hb (hc b h)⟩) (Nat.le_refl _)) (fun h=>hO (hc _ h)) hb
      · simp [AV.flat] at hc
    | agg hl _ ih =>
      refine .agg hl fun i hi=>ih i hi ?_
      rcases hc with hc|hc
      · exact .inl hc
      · exact .inr (eH (by simpa [AV.flat] using hc) hi)
    | tup hl _ ih =>
      refine .tup hl fun i hi=>ih i hi ?_
      rcases hc with hc|hc
      · exact .inl hc
      · exact .inr (eH (by simpa [AV.flat] using hc) hi)
    | fn hl _ ih =>
      rcases hc with hc|hc
      · exact .fn hl fun i hi=>ih i hi (.inl hc)
      · simp [AV.flat] at hc
   exact gen hr (hcases.imp id fun h=>h.2.2)
end
section
variable {hp0 : Hp} {ν : Nat → Nat} {L : List Ent}
inductive ArgMs (hp : Hp) (xs : List Nat) : List AV → List AV → Prop where
 | nil : ArgMs hp xs [] []
 | cons {a b : AV} {l m : List AV} (h : ArgM hp xs a b) (t : ArgMs hp xs l m) : ArgMs hp xs (a :: l) (b :: m)
theorem ArgMs.at {hp : Hp} {xs : List Nat} {l m : List AV} (h : ArgMs hp xs l m) : m.length = l.length ∧ ∀ i,i < l.length → ArgM hp xs (l.getD i .any) (m.getD i .any):=by
 induction h with
 | nil => exact ⟨rfl, fun i h => by simp at h⟩
 | cons h t ih =>
   refine ⟨by simp [ih.1],fun i hi=>?_⟩
   cases i with
   | zero => exact h
   | succ i => exact ih.2 i (by simpa using hi)
theorem jz {hp : Hp} {x y off : Nat} (h : y = x) : ArgM hp [x] (.ad x off) (.ad y off):=by subst h;exact .ad (List.mem_singleton.2 rfl)
theorem jA {hp : Hp} {x y : Nat} (h : y = x) : ArgM hp [x] (.sl x) (.sl y):=by subst h;exact .sl (List.mem_singleton.2 rfl)
theorem kV {hp : Hp} {xs : List Nat} {a a' : AV} (h : ArgV hp a a') (hn : a.names = []) : ArgM hp xs a a':=.v h fun y hy=>by rw [hn] at hy;cases hy
theorem me {hp : Hp} {xs : List Nat} (c : C) : ArgM hp xs (.c c) (.c c):=kV (bL c) rfl
theorem fY {hp : Hp} {xs : List Nat} {l m : List AV} (h : ArgMs hp xs l m) : ArgM hp xs (.agg l) (.agg m):=.agg h.at.1 h.at.2
theorem jB (hN : Nm hp0 ν) {i j : Nat} {T : TypeId} {nn : Fl} {c c' : C} (h : L[j]? = some (.arr T nn c)) (hr : en (if nn.nn then .nn c else c) c') (hj : j ≠ i) : ArgM (hpL hp0 ν L) [ν i] (.sl (ν j)) (.c c') :=
 .v (bj hN h hr) fun y hy hm=>by
  have h1 : y = ν j:=List.mem_singleton.1 hy
  have h2 : y = ν i:=List.mem_singleton.1 hm
  exact hj (hN.inj _ _ (h1.symm.trans h2))
theorem eI {P : Program} {f : FuncId} {args : (Nat → Nat) → List AV} {pre post : Ent} {nw : List Ent} {val : List Nat → AV} (hF : d3 P f args [pre] [post] nw val) (hN : Nm hp0 ν) (i : Nat) {avs : List AV} {k : Eff → Prop}
  (hpre : L[i]? = some pre) (h1 : pre.plain = true) (h2 : post.plain = true) (h3 : iI [pre] [post] = true) (h4 : nw.all Ent.plain = true) (hm : ν i ∈ au avs)
  (hA : ∀ ν' : Nat → Nat,ν' 0 = ν i → ArgMs (hpL hp0 ν L) [ν i] avs (args ν'))
  (hc : (∀ y,y ∈ au avs → y ∈ [ν i]) ∨ (nw.all Ent.flat = true ∧ [post].all Ent.flatB = true ∧ ∀ ν,(val ν).flat = true)) (h : k ⟨True,nw,[(ν i,post)],val⟩) : ∃ E,b9 P f avs (hpL hp0 ν L) E ∧ k E:=by
 refine ⟨_,pi hF [ν i] rfl (by simp) (fun x hx=>by rw [List.mem_singleton.1 hx];exact hm) (fun j hj=>?_) (by simp [h1]) (by simp [h2]) h3 h4 (fun ν' hν=>?_) hc,h⟩
 · have : j = 0:=by simp at hj;exact hj
   subst this
   show nP (hpL hp0 ν L) (ν i) pre
   cases pre with
   | box l => show hpL hp0 ν L (ν i) = _; rw [ah hN]; exact hpre
   | arr T nn c => exact ⟨nn, by rw [ah hN]; exact hpre, id, id⟩
   | dead => simp [Ent.plain] at h1
   | ext => simp [Ent.plain] at h1
 · exact (hA ν' (hν 0 (by simp))).at
theorem pj {P : Program} {f : FuncId} {args : (Nat → Nat) → List AV} {nw : List Ent} {val : List Nat → AV} (hF : d3 P f args [] [] nw val) {hp : Hp} {avs : List AV} {k : Eff → Prop} (h4 : nw.all Ent.plain = true)
  (hA : ∀ ν' : Nat → Nat,ArgMs hp [] avs (args ν')) (hc : (∀ y,y ∈ au avs → y ∈ ([] : List Nat)) ∨ (nw.all Ent.flat = true ∧ ([] : List Ent).all Ent.flatB = true ∧ ∀ ν,(val ν).flat = true)) (h : k ⟨True,nw,[],val⟩) : ∃ E,b9 P f avs hp E ∧ k E :=
 ⟨_,pi hF [] rfl (by simp) (fun x hx=>by cases hx) (fun j hj=>absurd hj (Nat.not_lt_zero _)) rfl rfl rfl h4 (fun ν' _=>(hA ν').at) hc,h⟩
end
theorem u7 {hp0 : Hp} {ν : Nat → Nat} {s : List (Nat × Nat)} {L L' : List Ent} (n : Nat) : LEs hp0 ν s L L' n []:=.nil n
theorem u9 {hp0 : Hp} {ν : Nat → Nat} {s : List (Nat × Nat)} {L L' : List Ent} {tm : List (Nat × AV)} : LTs hp0 ν s L L' tm []:=.nil
theorem vb {hp0 : Hp} {ν : Nat → Nat} {s : List (Nat × Nat)} {L L' : List Ent} : LVs hp0 ν s L L' [] []:=.nil
theorem bv {hp0 : Hp} {ν : Nat → Nat} {s : List (Nat × Nat)} {L L' : List Ent} {n : Nat} {e : Ent} {l : List Ent} (h : LE hp0 ν s L L' n e) (t : LEs hp0 ν s L L' (n + 1) l) : LEs hp0 ν s L L' n (e :: l):=.cons h t
theorem bw {hp0 : Hp} {ν : Nat → Nat} {s : List (Nat × Nat)} {L L' : List Ent} {a b : AV} {l m : List AV} (h : LV hp0 ν s L L' a b) (t : LVs hp0 ν s L L' l m) : LVs hp0 ν s L L' (a :: l) (b :: m):=.cons h t
theorem bz {hp0 : Hp} {ν : Nat → Nat} {s : List (Nat × Nat)} {L L' : List Ent} {tm : List (Nat × AV)} {t : Nat} {a b : AV} {l : List (Nat × AV)} (e : tm.lookup t = some a) (h : LV hp0 ν s L L' a b) (r : LTs hp0 ν s L L' tm l) : LTs hp0 ν s L L' tm ((t,b) :: l):=.cons e h r
theorem aF (c : C) : en c c:=.refl c
theorem aG (c : C) : en (.nn c) c:=.unn c
theorem i8 {a b : List Bool} (h : a = b) : C.B a = C.B b:=congrArg C.B h
theorem i9 {a b : List Int} (h : a = b) : C.I a = C.I b:=congrArg C.I h
theorem ja {a b : List (List Int)} (h : a = b) : C.R a = C.R b:=congrArg C.R h
theorem iJ {k : IntKind} {a b : Int} (h : a = b) : C.int k a = C.int k b:=congrArg (C.int k) h
theorem iK {a b : Bool} (h : a = b) : C.bool a = C.bool b:=congrArg C.bool h
class XSt (p : Prop) (q : outParam Prop) : Prop where
 st : q → p
theorem stZ {p q : Prop} [XSt p q] (h : q) : p:=XSt.st h
class XSu (p : Prop) (q : outParam Prop) : Prop where
 su : q → p
theorem suZ {p q : Prop} [XSu p q] (h : q) : p:=XSu.su h
class XCl (p : Prop) : Prop where
 cl : p
theorem clZ {p : Prop} [XCl p] : p:=XCl.cl
class XAg (p : Prop) : Prop where
 ag : p
theorem agZ {p : Prop} [XAg p] : p:=XAg.ag
section
variable {P : Program} {ti : TI} {N : Nat} {hB hp0 : Hp} {ν : Nat → Nat} {ops : Array Oper} {S : List Fr} {Q : ff} {tm : Nat → AV} {hp : Hp} {K : (Nat → AV) → Hp → Prop}
instance xSa (x y : Code) : XSt (Aw P N hB (.seq x y) (Nx P N hB S Q) tm hp) (Aw P N hB x (Nx P N hB (.sq y :: S) Q) tm hp):=⟨tC⟩
instance xSb (y : Code) : XSt (Nx P N hB (.sq y :: S) Q .normal tm hp) (Aw P N hB y (Nx P N hB S Q) tm hp):=⟨uI⟩
instance xSc : XSt (aws P ti hp0 ν ops [] K tm hp) (K tm hp):=⟨tt⟩
instance xSd (l : Nat) : XSt (Aw P N hB (.label l) (Nx P N hB S Q) tm hp) (Nx P N hB S Q .normal tm hp):=⟨qB⟩
instance xSe (id : Nat) (c : Code) : XSt (Aw P N hB (.block id c) (Nx P N hB S Q) tm hp) (Aw P N hB c (Nx P N hB (.bk id :: S) Q) tm hp):=⟨qA⟩
instance xSf (id : Nat) : XSt (Nx P N hB (.bk id :: S) Q .normal tm hp) (Nx P N hB S Q .normal tm hp):=⟨uJ⟩
instance xSg (id : Nat) : XSt (Aw P N hB (.exit id) (Nx P N hB S Q) tm hp) (Nx P N hB S Q (.exit id) tm hp):=⟨rS⟩
instance xSh (y : Code) (i : Nat) : XSt (Nx P N hB (.sq y :: S) Q (.exit i) tm hp) (Nx P N hB S Q (.exit i) tm hp):=⟨tw⟩
instance xSi (i : Nat) : XSt (Nx P N hB (.k K :: S) Q (.exit i) tm hp) (Nx P N hB S Q (.exit i) tm hp):=⟨uK⟩
instance xSj (i : Nat) : XSt (Nx P N hB (.bk i :: S) Q (.exit i) tm hp) (Nx P N hB S Q .normal tm hp):=⟨tx⟩
instance xSk : XSt (Aw P N hB .ret (Nx P N hB S Q) tm hp) (Nx P N hB S Q .ret tm hp):=⟨tD⟩
instance xSl (y : Code) : XSt (Nx P N hB (.sq y :: S) Q .ret tm hp) (Nx P N hB S Q .ret tm hp):=⟨tz⟩
instance xSm : XSt (Nx P N hB (.k K :: S) Q .ret tm hp) (Nx P N hB S Q .ret tm hp):=⟨uL⟩
instance xSn (id : Nat) : XSt (Nx P N hB (.bk id :: S) Q .ret tm hp) (Nx P N hB S Q .ret tm hp):=⟨tA⟩
instance xSo : XSt (Aw P N hB .skip (Nx P N hB S Q) tm hp) (Nx P N hB S Q .normal tm hp):=⟨rR⟩
instance xSp : XSt (Nx P N hB (.k K :: S) Q .normal tm hp) (K tm hp):=⟨n_k⟩
instance xSq (e : Exit) : XSt (Nx P N hB [] Q e tm hp) (Q e tm hp):=⟨tB⟩
end
section
variable {hp0 : Hp} {ν : Nat → Nat} {s : List (Nat × Nat)} {L L' : List Ent}
instance xCa (n : Nat) : XCl (LEs hp0 ν s L L' n []):=⟨.nil n⟩
instance xCb (tm : List (Nat × AV)) : XCl (LTs hp0 ν s L L' tm []):=⟨.nil⟩
instance xCc : XCl (LVs hp0 ν s L L' [] []):=⟨.nil⟩
instance xCd (a : AV) : XCl (LV hp0 ν s L L' a .any):=⟨rV a⟩
instance xCe (c : C) : XCl (LV hp0 ν s L L' (.c c) (.c c)):=⟨uP c⟩
instance xCf (i : Nat) : XCl (LE hp0 ν s L L' i .dead):=⟨qC i⟩
instance xCg (wd : Nat) (f : Nat → C) : XCl (LV hp0 ν s L L' (.el wd f) (.el wd f)):=⟨tF wd f⟩
instance xCh (v : Value) : XCl (LV hp0 ν s L L' (.k v) (.k v)):=⟨uQ v⟩
instance xUa (l m : List AV) : XSu (LV hp0 ν s L L' (.agg l) (.agg m)) (LVs hp0 ν s L L' l m):=⟨rW⟩
instance xUb (f : Fn) (l m : List AV) : XSu (LV hp0 ν s L L' (.fn f l) (.fn f m)) (LVs hp0 ν s L L' l m):=⟨tG⟩
instance xUc (a b : List Bool) : XSt (C.B a = C.B b) (a = b):=⟨congrArg _⟩
instance xUd (a b : List Int) : XSt (C.I a = C.I b) (a = b):=⟨congrArg _⟩
instance xUe (a b : List (List Int)) : XSt (C.R a = C.R b) (a = b):=⟨congrArg _⟩
instance xUf (k : IntKind) (a b : Int) : XSt (C.int k a = C.int k b) (a = b):=⟨congrArg _⟩
instance xUg (a b : Bool) : XSt (C.bool a = C.bool b) (a = b):=⟨congrArg _⟩
end
section
variable {P : Program} {ti : TI} {N : Nat} {hB hp0 : Hp} {ν : Nat → Nat} {ops : Array Oper} {S : List Fr} {Q : ff} {tm : Nat → AV} {hp : Hp}
variable {o : Oper} {l : List Oper} {K : (Nat → AV) → Hp → Prop} {D : List Foot → (Nat → AV) → Hp → Prop} {acc : List Foot} {L : List (Nat × AV)} {j d e : Nat} {want : Bool}
theorem be {id : Nat} {draw : Bool} (hT : cU P ti) (hN : Nm hp0 ν) (h : aws P ti hp0 ν l.toArray l (Nx P N hB S Q .normal) tm hp) (hd : draw = false:=by exact rfl) (hs : gl N l.toArray = true:=by kernel_rfl) : Aw P N hB (.region id l.toArray draw) (Nx P N hB S Q) tm hp:=tE hT hN hd hs h
theorem bB {id : Nat} {draw : Bool} (hT : cU P ti) (hN : Nm hp0 ν) (h : awd P ti hp0 ν l.toArray l (fun acc tm hp=>l5 (gU l.toArray) acc ∧ Nx P N hB S Q .normal tm hp) [] tm hp) (hd : draw = true:=by exact rfl) (hm : P.follows .mixedOrders = true:=by kernel_rfl) (hs : gl N l.toArray = true:=by kernel_rfl) (hst : oP l.toArray = true:=by kernel_rfl) : Aw P N hB (.region id l.toArray draw) (Nx P N hB S Q) tm hp:=qD hT hN hd hm hs hst h
theorem cr {X : (Nat → AV) → Hp → Prop} (hN : Nm hp0 ν) (hx : X tm hp) (h : ∃ ai,FtI ν acc ai ∧ ftB ops ai = true:=by
 apply Exists.intro;apply And.intro;(repeat' (first|apply FtI.nil|apply FI.nil|apply FI.cons|apply FtI.cons));kernel_rfl) : awd P ti hp0 ν ops [] (fun acc tm hp=>l5 (gU ops) acc ∧ X tm hp) acc tm hp:=tN hN h hx
theorem bf (h : ∀ K' : AV → Hp → Prop,(∀ a hp,aws P ti hp0 ν ops l K (tmL ((d,a) :: L)) hp → K' a hp) → eG P ti o.op (evT (tmL L)) hp fun E=>FN hp0 ν E.nw (aI hp E.up) fun hp' ns=>K' (E.val ns) hp') (hg : o.guard = none:=by exact rfl) (hd : o.dst = some d:=by exact rfl) : aws P ti hp0 ν ops (o :: l) K (tmL L) hp:=tI hg hd h
theorem bg (h : ∀ K' : Hp → Prop,(∀ hp,aws P ti hp0 ν ops l K (tmL L) hp → K' hp) → eG P ti o.op (evT (tmL L)) hp fun E=>FN hp0 ν E.nw (aI hp E.up) fun hp' ns=>K' hp') (hg : o.guard = none:=by exact rfl) (hd : o.dst = none:=by exact rfl) : aws P ti hp0 ν ops (o :: l) K (tmL L) hp:=tJ hg hd h
theorem ct (h : ∀ K' : Foot → AV → Hp → Prop,(∀ f a hp,awd P ti hp0 ν ops l D (acc ++ [f]) (tmL ((d,a) :: L)) hp → K' f a hp) → eG P ti o.op (evT (tmL L)) hp fun E=>FN hp0 ν E.nw (aI hp E.up) fun hp' ns=>K' ⟨rdN o.op (evT (tmL L)),E.up.map (·.1),ns⟩ (E.val ns) hp') (hg : o.guard = none:=by exact rfl) (hd : o.dst = some d:=by exact rfl) : awd P ti hp0 ν ops (o :: l) D acc (tmL L) hp:=tK hg hd h
theorem cw (h : ∀ K' : Foot → Hp → Prop,(∀ f hp,awd P ti hp0 ν ops l D (acc ++ [f]) (tmL L) hp → K' f hp) → eG P ti o.op (evT (tmL L)) hp fun E=>FN hp0 ν E.nw (aI hp E.up) fun hp' ns=>K' ⟨rdN o.op (evT (tmL L)),E.up.map (·.1),ns⟩ hp') (hg : o.guard = none:=by exact rfl) (hd : o.dst = none:=by exact rfl) : awd P ti hp0 ν ops (o :: l) D acc (tmL L) hp:=tL hg hd h
end
attribute [go_sem ↓] ax
attribute [go_sem] beq_self_eq_true
theorem uX {P : Program} {f : FuncId} {args avs : List AV} {nw : List Ent} {val : List Nat → AV} {hp0 : Hp} {ν : Nat → Nat} {L : List Ent} {k : Eff → Prop} (hN : Nm hp0 ν) (hF : ap P f args nw val) (h : k ⟨True,nw,[],val⟩) (hA : g7 (hpL hp0 ν L) avs args:=by
 (repeat' (first|(with_reducible first|exact aq|refine am ?_ ?_|exact bL _|refine aR ?_|exact aL _|exact bn _ _|refine bm ?_|exact aJ _)|exact aS hN rfl rfl|(refine bj hN rfl ?_;first|exact en.refl _|exact en.unn _)|exact aK rfl rfl rfl)) <;> fail) (h1 : nw.all Ent.flat = true:=by exact rfl) (h2 : ∀ ν,(val ν).flat = true:=by exact fun _=>rfl) : ∃ E,b9 P f avs (hpL hp0 ν L) E ∧ k E:=br hF hA h1 h2 h
end Go.Proofs.Ythjamlponejffaa
