/-
  Calls, the types, numbered names, lists by functions, and the bridges to the other way of saying contracts.
-/
import Derived.Test.YtlodllmpndflcaaZoFa
import Derived.Test.YtlodllmpndflcaaZoCa
namespace Go.Proofs.Ytlodllmpndflcaa
set_option linter.unusedVariables false
set_option linter.unusedSimpArgs false
open Go.RowKit
inductive ArgV (hp : Hp) : AV → AV → Prop where
 | any (a : AV) : ArgV hp a .any
 | rd {c c' : C} (h : ef c c') : ArgV hp (.c c) (.c c')
 | k (v : Value) : ArgV hp (.k v) (.k v)
 | el (wd : Nat) (f : Nat → C) : ArgV hp (.el wd f) (.el wd f)
 | fz {x : Nat} {T : TypeId} {nn : Fl} {c c' : C} (h : hp x = some (.arr T nn c)) (hr : ef (if nn.nn then .nn c else c) c') : ArgV hp (.sl x) (.c c')
 | box {x : Nat} {l : List AV} {f : Nat → C} (h : hp x = some (.box l)) (hc : ∀ i, i < l.length → ∃ c, l.getD i .any = .c c ∧ ef c (f i)) : ArgV hp (.ad x 0) (.el l.length f)
 | agg {l l' : List AV} (hl : l'.length = l.length) (h : ∀ i, i < l.length → ArgV hp (l.getD i .any) (l'.getD i .any)) : ArgV hp (.agg l) (.agg l')
 | fn {f : Fn} {l l' : List AV} (hl : l'.length = l.length) (h : ∀ i, i < l.length → ArgV hp (l.getD i .any) (l'.getD i .any)) : ArgV hp (.fn f l) (.fn f l')
noncomputable def cm (hp : Hp) (S : List Nat) : Hp:=fun ν=>if ν ∈ S then none else match hp ν with
 | some e => if e.kind = 2 then none else some .ext
 | none => none
section
variable {P : Program}
theorem lD (hp : Hp) (S : List Nat) : Ext (cm hp S):=by
 intro ν e h
 unfold cm at h
 split at h
 · cases h
 · split at h
   · split at h
     · cases h
     · injection h with h;subst h;rfl
   · cases h
theorem cO {hp : Hp} {S : List Nat} {ν : Nat} {e : Ent} (h : cm hp S ν = some e) : e = .ext ∧ ¬ ν ∈ S ∧ cf hp ν:=by
 unfold cm at h
 split at h
 · cases h
 · rename_i hS
   split at h
   · rename_i e0 he0
     split at h
     · cases h
     · rename_i hk;injection h with h;exact ⟨h.symm,hS,e0,he0,hk⟩
   · cases h
theorem nj {hp : Hp} {S : List Nat} {ν : Nat} (h : ¬ ν ∈ S) (hl : cf hp ν) : cm hp S ν = some .ext:=by
 obtain ⟨e,h1,h2⟩:=hl
 unfold cm
 rw [if_neg h,h1]
 simp [h2]
theorem rA {φ : Nat → Loc} {hp : Hp} {lo : Nat} {w0 w : World} (H : HC φ hp lo w0 w) (S : List Nat) : HC φ (cm hp S) w.heap.size w w:=by
 have lv : ∀ ν,cf (cm hp S) ν → cf hp ν:=fun ν ⟨e,h1,_⟩=>(cO h1).2.2
 obtain ⟨b,hb⟩:=H.fin
 refine ⟨Below.refl _ _,Nat.le_refl _,⟨b,fun ν h=>?_⟩,fun ν e he=>?_,fun ν ν' b hne h1 h2 h3=>H.sep ν ν' b hne (lv ν h1) (lv ν' h2) h3,fun ν b h1 h2=>?_⟩
 · unfold cm;rw [hb ν h];split <;> rfl
 · obtain ⟨rfl,h1,h2⟩:=cO he
   obtain ⟨e,h3,h4⟩:=h2
   exact fun b hb=>H.lt ⟨e,h3,h4⟩ hb
 · obtain ⟨e,k1,k2⟩:=h1
   obtain ⟨rfl,_⟩:=cO k1
   simp [Ent.kind] at k2
theorem i6 {φ : Nat → Loc} {hp hp1 hp' : Hp} {lo : Nat} {w0 w : World} {S : List Nat} (H : HC φ hp1 lo w0 w) (own : ∀ b,Own φ hp' b → ∃ y,cf hp1 y ∧ (φ y).blk = some b ∧ ¬ y ∈ S) {a a' : AV} {v : Value} (h : ArgV hp a a') (hs : ∀ ν,ν ∈ a.names → hp1 ν = hp ν ∧ ν ∈ S) (hv : AVC φ hp1 w a v) : AVC φ hp' w a' v:=by
 have own' : ∀ b,Own φ hp' b → Own φ hp1 b:=fun b h=>let ⟨y,k1,k2,_⟩:=own b h;⟨y,k1,k2⟩
 have mono : ∀ {c v},Rd (Own φ hp1) w c v → Rd (Own φ hp') w c v:=fun h=>h.mono (fun b _ hb=>⟨rfl,fun h=>hb (own' b h)⟩) (Nat.le_refl _)
 induction h generalizing v with
 | any => exact .any v
 | rd h => cases hv with | c hr => exact .c (h _ _ _ (mono hr))
 | k => cases hv; exact .k _
 | el wd f => cases hv with | el hc hr hO hb => exact .el hc (fun j hj => mono (hr j hj)) (fun h => hO (own' _ h)) hb
 | @fz x T nn c c' h hr =>
   obtain ⟨e1,e2⟩:=hs x (by simp [AV.names])
   rw [← e1] at h
   have e:=fh hv h
   subst e
   refine .c (hr _ _ _ (eq (H.ent x _ h) (fun b hb hh=>⟨rfl,fun ho=>?_⟩) (Nat.le_refl _)))
   obtain ⟨y,y1,y2,y3⟩:=own b ho
   rcases hh with hh|hh
   · exact hh ⟨y,y1,y2⟩
   · exact H.sep x y b (fun e=>y3 (by subst e;exact e2)) ⟨_,h,by simp [Ent.kind]⟩ y1 hh y2
 | @box x l f h hc =>
   obtain ⟨e1,e2⟩:=hs x (by simp [AV.names])
   rw [← e1] at h
   obtain ⟨g,n,cp,wd,hl,rfl⟩:=fW hv h
   obtain ⟨cur,T',h1,h2,h3⟩:=eu H h hl
   refine .el (vs:=fun i=>cur.getD i undef) (fun j hj=>?_) (fun j hj=>?_) (fun ho=>?_) (Array.getElem?_eq_some_iff.1 h1).1
   · refine eS h1 ?_
     rw [Nat.zero_add,Array.getD_eq_getD_getElem?]
     simp [show j < cur.size by omega]
   · obtain ⟨c,q1,q2⟩:=hc j hj
     have:=h3 j hj
     rw [q1] at this
     exact q2 _ _ _ (mono (cJ this))
   · obtain ⟨y,y1,y2,y3⟩:=own g ho
     exact H.sep x y g (fun e=>y3 (by subst e;exact e2)) ⟨_,h,by simp [Ent.kind]⟩ y1 (by rw [hl];rfl) y2
 | agg hl _ ih =>
   obtain ⟨vs,rfl,h1,h2⟩:=eQ hv
   refine .agg (by omega) fun i hi=>ih i (by omega) (fun ν hν=>hs ν ?_) (h2 i (by omega))
   simp only [AV.names]
   have hi':=Nat.lt_of_lt_of_le hi (Nat.le_of_eq hl)
   rw [bI hi'] at hν
   exact cL (List.getElem_mem hi') hν
 | fn hl _ ih =>
   cases hv with
   | fn h1 h2 =>
     refine .fn (by omega) fun i hi=>ih i (by omega) (fun ν hν=>hs ν ?_) (h2 i (by omega))
     simp only [AV.names]
     have hi':=Nat.lt_of_lt_of_le hi (Nat.le_of_eq hl)
     rw [bI hi'] at hν
     exact cL (List.getElem_mem hi') hν
theorem om {φ : Nat → Loc} {hp hp1 : Hp} {lo : Nat} {w0 w : World} {S : List Nat} (H : HC φ hp1 lo w0 w) {a a' : AV} {v : Value} (h : ArgV hp a a') (hs : ∀ ν,ν ∈ a.names → hp1 ν = hp ν ∧ ν ∈ S) (hv : AVC φ hp1 w a v) : AVC φ (cm hp1 S) w a' v :=
 i6 H (fun b ⟨y,⟨e,k1,_⟩,h2⟩=>let ⟨_,q1,q2⟩:=cO k1;⟨y,q2,h2,q1⟩) h hs hv
def i7 (hp : Hp) (avs args : List AV) : Prop:=args.length = avs.length ∧ ∀ i,i < avs.length → ArgV hp (avs.getD i .any) (args.getD i .any)
def C.flat : C → Bool
 | .I _ | .B _ | .Y _ => true
 | _ => false
def C.scal : C → Bool
 | .int _ _ | .bool _ | .nul => true
 | _ => false
def Ent.flat : Ent → Bool
 | .arr _ _ c => c.flat
 | _ => false
mutual
def AV.flat : AV → Bool
 | .any | .sl _ => true
 | .c c => c.scal
 | .agg l => jR l
 | .tup l => jR l
 | _ => false
def jR : List AV → Bool
 | [] => true
 | a :: l => a.flat && jR l
end
theorem eB {l : List AV} (h : jR l = true) {i : Nat} (hi : i < l.length) : (l.getD i .any).flat = true:=by
 induction l generalizing i with
 | nil => simp at hi
 | cons a l ih =>
   simp only [jR,Bool.and_eq_true] at h
   cases i with
   | zero => exact h.1
   | succ i => simpa using ih h.2 (by simpa using hi)
theorem gu {O O' : Nat → Prop} {w w' : World} {c : C} {v : Value} (hc : c.scal = true) (h : Rd O w c v) : Rd O' w' c v:=by
 cases h with
 | int => exact .int _ _
 | bool => exact .bool _
 | nul => exact .nul
 | sl hv => cases c <;> first | (simp [C.scal] at hc; done) | (simp [C.view] at hv)
theorem nk {c : C} {V : View} (hf : c.flat = true) (hv : c.view = some V) (i j : Nat) : (V.at' i j).scal = true:=by
 cases c <;> first|(simp [C.flat] at hf;done)|(simp only [C.view,Option.some.injEq] at hv;subst hv;rfl)
theorem jS {f : FuncId} {args avs : List AV} {nw : List Ent} {val : List Nat → AV} (hF : ba P f args nw val) {hp : Hp} (hA : i7 hp avs args) (fz : List Nat) (hfz : ∀ x,x ∈ fz → ∃ e,hp x = some e ∧ e.kind = 1 ∧ x ∈ bp avs)
  (hk : ∀ e,e ∈ nw → e.kind = 1) (hcase : (∀ x,x ∈ bp avs → x ∈ fz) ∨ (nw.all Ent.flat = true ∧ ∀ ν,(val ν).flat = true)) : cM P f avs hp ⟨True,nw,b7 fz,val⟩:=by
 obtain ⟨hcall,hspec⟩:=hF
 refine ⟨hcall,fun φ hp1 lo w0 w vs hsame H hl hv=>?_⟩
 have hX:=lD hp1 (bp avs)
 have H1:=rA H (bp avs)
 have hargs : ∀ i,i < args.length → AVC φ (cm hp1 (bp avs)) w (args.getD i .any) (vs.getD i undef):=by
  intro i hi
  have hi' : i < avs.length:=by rw [← hA.1];exact hi
  refine om H (hA.2 i hi') (fun ν hν=>?_) (hv i hi')
  have : ν ∈ bp avs:=by rw [bI hi'] at hν;exact cL (List.getElem_mem hi') hν
  exact ⟨hsame ν this,this⟩
 refine (hspec φ _ w vs hX H1 (by rw [hl,hA.1]) hargs).mono fun e w' ⟨v,he,hO⟩=>⟨v,he,fun ν n1 n2 n3=>?_⟩
 have n1 : ν.length = nw.length:=n1
 have n3' : ∀ x,x ∈ ν → cm hp1 (bp avs) x = none:=fun x hx=>by
  unfold cm;rw [n3 x hx];split <;> rfl
 obtain ⟨φ1,K,EV,hr⟩:=hO ν n1 n2 n3'
 change HC φ1 (bQ (cm hp1 (bp avs)) ν nw) w.heap.size w w' at K
 change Evo φ _ w φ1 (bQ (cm hp1 (bp avs)) ν nw) w' at EV
 change AVC φ1 (bQ (cm hp1 (bp avs)) ν nw) w' (val ν) v at hr
 have hfz1 : ∀ x,x ∈ fz → ∃ e,hp1 x = some e ∧ e.kind = 1:=fun x hx=>by
  obtain ⟨e,h1,h2,h3⟩:=hfz x hx
  exact ⟨e,by rw [hsame x h3];exact h1,h2⟩
 have hνfz : ∀ x,x ∈ ν → ¬ x ∈ fz:=fun x hx h=>by obtain ⟨e,h1,_⟩:=hfz1 x h;rw [n3 x hx] at h1;cases h1
 let φ' : Nat → Loc:=fun y=>if y ∈ ν then φ1 y else φ y
 let hp' : Hp:=bQ (aY hp1 (b7 fz)) ν nw
 show ∃ φ'',HC φ'' hp' lo w0 w' ∧ Evo φ hp1 w φ'' hp' w' ∧ AVC φ'' hp' w' (val ν) v
 have p1 : ∀ y,y ∈ ν → φ' y = φ1 y:=fun y h=>if_pos h
 have p2 : ∀ y,¬ y ∈ ν → φ' y = φ y:=fun y h=>if_neg h
 have q1 : ∀ y,y ∈ ν → hp' y = bQ (cm hp1 (bp avs)) ν nw y:=fun y h=>by
  obtain ⟨k1,k2⟩:=dy h
  show bQ _ ν nw y = _
  rw [← k2,dx n1 n2 k1,dx n1 n2 k1]
 have q2 : ∀ y,¬ y ∈ ν → hp' y = if y ∈ fz then some .dead else hp1 y:=fun y h=>by
  show bQ _ ν nw y = _
  rw [c9 h,co]
 have lv : ∀ y,¬ y ∈ ν → (cf hp' y ↔ ¬ y ∈ fz ∧ cf hp1 y):=by
  intro y h
  unfold cf
  rw [q2 y h]
  by_cases hz : y ∈ fz
  · rw [if_pos hz]
    simp only [Option.some.injEq,hz,not_true,false_and,iff_false]
    rintro ⟨e,rfl,hk⟩
    exact hk rfl
  · rw [if_neg hz];simp [hz]
 have lvn : ∀ y,y ∈ ν → (cf hp' y ↔ cf (bQ (cm hp1 (bp avs)) ν nw) y):=fun y h=>by unfold cf;rw [q1 y h]
 have kindn : ∀ y e,y ∈ ν → bQ (cm hp1 (bp avs)) ν nw y = some e → e.kind = 1:=fun y e hy h=>by
  obtain ⟨m1,m2⟩:=dy hy
  rw [← m2,dx n1 n2 m1] at h
  injection h with h
  have hi : ν.idxOf y < nw.length:=by omega
  rw [bI hi] at h
  subst h
  exact hk _ (List.getElem_mem hi)
 have newblk : ∀ y,y ∈ ν → cf hp' y → ∀ b,(φ1 y).blk = some b → w.heap.size ≤ b:=by
  intro y hy hL b hb
  obtain ⟨e,k1,k2⟩:=(lvn y hy).1 hL
  exact K.lo y b ⟨e,k1,by have:=kindn y e hy k1;omega⟩ hb
 have hcases : (∀ b,Own φ' hp' b → Own φ1 (bQ (cm hp1 (bp avs)) ν nw) b) ∨ (nw.all Ent.flat = true ∧ (val ν).flat = true):=by
  rcases hcase with hc|⟨h1,h2⟩
  · refine .inl ?_
    rintro b ⟨y,y1,y2⟩
    by_cases hy : y ∈ ν
    · rw [p1 y hy] at y2
      exact ⟨y,(lvn y hy).1 y1,y2⟩
    · rw [p2 y hy] at y2
      obtain ⟨z1,z2⟩:=(lv y hy).1 y1
      have hn : ¬ y ∈ bp avs:=fun h=>z1 (hc y h)
      have hx:=nj hn z2
      obtain ⟨e',m1,⟨m2,m3⟩|⟨m2,m3⟩⟩:=EV.nm y _ hx
      · exact absurd rfl m3
      · exact ⟨y,⟨e',m1,by rw [m2];simp [Ent.kind]⟩,by rw [m3];exact y2⟩
  · exact .inr ⟨h1,h2 ν⟩
 have E : Evo φ hp1 w φ' hp' w':=by
  refine ⟨fun y e hy=>?_,fun b hb ho=>⟨K.fr.block b hb,fun ⟨y,y1,y2⟩=>?_⟩,K.fr.size,fun b hb _=>K.fr.block b hb⟩
  · have hyν : ¬ y ∈ ν:=fun h=>by rw [n3 y h] at hy;cases hy
    rw [q2 y hyν,p2 y hyν]
    by_cases hz : y ∈ fz
    · rw [if_pos hz]
      obtain ⟨e0,k1,k2⟩:=hfz1 y hz
      rw [hy] at k1;injection k1 with k1;subst k1
      exact ⟨.dead,rfl,.inl ⟨rfl,by omega⟩⟩
    · rw [if_neg hz];exact ⟨e,hy,.inr ⟨rfl,rfl⟩⟩
  · by_cases hy : y ∈ ν
    · rw [p1 y hy] at y2
      have:=newblk y hy y1 b y2
      omega
    · rw [p2 y hy] at y2
      exact ho ⟨y,((lv y hy).1 y1).2,y2⟩
 refine ⟨φ',⟨H.fr.trans (K.fr.mono H.l0),Nat.le_trans H.l0 K.fr.size,?_,fun y e hy=>?_,fun y y' b hne h1 h2 h3 h4=>?_,fun y b h1 h2=>?_⟩,E,?_⟩
 · show ir hp'
   show ir (bQ _ ν nw)
   rw [dL];exact eW (eW H.fin _) _
 · by_cases hyν : y ∈ ν
   · rw [q1 y hyν] at hy
     rw [p1 y hyν]
     have hkd:=kindn y e hyν hy
     have hE:=K.ent y e hy
     cases e with
     | arr T nn c =>
       obtain ⟨V,hv,hnn,k|⟨g,o,cp,cur,k1,k2,k3,k4,k5,kh,k6⟩⟩:=hE
       · exact ⟨V,hv,hnn,.inl k⟩
       · refine ⟨V,hv,hnn,.inr ⟨g,o,cp,cur,k1,k2,k3,k4,k5,kh,fun i hi j hj=>?_⟩⟩
         obtain ⟨u,m1,m2⟩:=k6 i hi j hj
         refine ⟨u,m1,?_⟩
         rcases hcases with hc|⟨hc,_⟩
         · exact m2.mono (fun b _ hb=>⟨rfl,fun h=>hb (hc b h)⟩) (Nat.le_refl _)
         · obtain ⟨r1,r2⟩:=dy hyν
           rw [← r2,dx n1 n2 r1] at hy
           injection hy with hy
           have hi' : ν.idxOf y < nw.length:=by omega
           rw [bI hi'] at hy
           have:=List.all_eq_true.1 hc _ (List.getElem_mem hi')
           rw [hy] at this
           exact gu (nk this hv i j) m2
     | _ => simp [Ent.kind] at hkd
   · rw [q2 y hyν] at hy
     rw [p2 y hyν]
     by_cases hz : y ∈ fz
     · rw [if_pos hz] at hy;injection hy with hy;subst hy;trivial
     · rw [if_neg hz] at hy
       exact (H.ent y e hy).evo E fun hk b hb=>K.fr.block b (H.lt ⟨e,hy,hk⟩ hb)
 · by_cases hy : y ∈ ν <;> by_cases hy' : y' ∈ ν
   · rw [p1 y hy] at h3;rw [p1 y' hy'] at h4
     exact K.sep y y' b hne ((lvn y hy).1 h1) ((lvn y' hy').1 h2) h3 h4
   · rw [p1 y hy] at h3;rw [p2 y' hy'] at h4
     have:=newblk y hy h1 b h3
     have:=H.lt ((lv y' hy').1 h2).2 h4
     omega
   · rw [p2 y hy] at h3;rw [p1 y' hy'] at h4
     have:=newblk y' hy' h2 b h4
     have:=H.lt ((lv y hy).1 h1).2 h3
     omega
   · rw [p2 y hy] at h3;rw [p2 y' hy'] at h4
     exact H.sep y y' b hne ((lv y hy).1 h1).2 ((lv y' hy').1 h2).2 h3 h4
 · by_cases hy : y ∈ ν
   · rw [p1 y hy] at h2
     have:=newblk y hy h1.live b h2
     have:=H.l0
     omega
   · rw [p2 y hy] at h2
     obtain ⟨e,k1,k2⟩:=h1
     rw [q2 y hy] at k1
     by_cases hz : y ∈ fz
     · rw [if_pos hz] at k1;injection k1 with k1;subst k1;simp [Ent.kind] at k2
     · rw [if_neg hz] at k1;exact H.lo y b ⟨e,k1,k2⟩ h2
 · have inν : ∀ y e,bQ (cm hp1 (bp avs)) ν nw y = some e → e.kind ≠ 3 → y ∈ ν:=by
    intro y e h1 h2
    by_cases hy : y ∈ ν
    · exact hy
    · rw [c9 hy] at h1
      obtain ⟨rfl,_⟩:=cO h1
      exact absurd rfl h2
   have gen : ∀ {a v},AVC φ1 (bQ (cm hp1 (bp avs)) ν nw) w' a v → ((∀ b,Own φ' hp' b → Own φ1 (bQ (cm hp1 (bp avs)) ν nw) b) ∨ a.flat = true) → AVC φ' hp' w' a v:=by
    intro a v h hc
    induction h with
    | any v => exact .any v
    | c h =>
      rcases hc with hc|hc
      · exact .c (h.mono (fun b _ hb=>⟨rfl,fun h=>hb (hc b h)⟩) (Nat.le_refl _))
      · exact .c (gu hc h)
    | k v => exact .k v
    | @sl y e h hk' =>
      have hy:=inν y e h (by omega)
      rw [← p1 y hy]
      exact .sl (by rw [q1 y hy];exact h) hk'
    | @sld y e h hk' v hone =>
      have hy:=inν y e h (by omega)
      exact .sld (by rw [q1 y hy];exact h) hk' _ hone
    | @ad y off g n cp wd e h hk' hl =>
      have hy:=inν y e h (by omega)
      exact .ad (by rw [q1 y hy];exact h) hk' (by rw [p1 y hy];exact hl)
    | @add y off e h hk' v hone =>
      have hy:=inν y e h (by omega)
      exact .add (by rw [q1 y hy];exact h) hk' _ hone
    | @ea y i j g o n cp wd e h hk' hl =>
      have hy:=inν y e h (by omega)
      exact .ea (by rw [q1 y hy];exact h) hk' (by rw [p1 y hy];exact hl)
    | @ead y i j e h hk' v hone =>
      have hy:=inν y e h (by omega)
      exact .ead (by rw [q1 y hy];exact h) hk' _ hone
    | el hc' hr hO hb =>
      rcases hc with hc|hc
      · exact .el hc' (fun j hj=>(hr j hj).mono (fun b _ hb=>⟨rfl,fun h=>hb (hc b h)⟩) (Nat.le_refl _)) (fun h=>hO (hc _ h)) hb
      · simp [AV.flat] at hc
    | agg hl _ ih =>
      refine .agg hl fun i hi=>ih i hi ?_
      rcases hc with hc|hc
      · exact .inl hc
      · exact .inr (eB (by simpa [AV.flat] using hc) hi)
    | tup hl _ ih =>
      refine .tup hl fun i hi=>ih i hi ?_
      rcases hc with hc|hc
      · exact .inl hc
      · exact .inr (eB (by simpa [AV.flat] using hc) hi)
    | fn hl _ ih =>
      rcases hc with hc|hc
      · exact .fn hl fun i hi=>ih i hi (.inl hc)
      · simp [AV.flat] at hc
   exact gen hr (hcases.imp id (·.2))
theorem oq {f : FuncId} {args avs : List AV} {nw : List Ent} {val : List Nat → AV} (hF : ba P f args nw val) {hp : Hp} (hA : i7 hp avs args) (h1 : nw.all Ent.flat = true) (h2 : ∀ ν,(val ν).flat = true) : cM P f avs hp ⟨True,nw,[],val⟩ :=
 jS hF hA [] (fun x hx=>by cases hx) (fun e he=>by
  have:=List.all_eq_true.1 h1 e he
  cases e <;> simp [Ent.flat] at this
  rfl) (.inr ⟨h1,h2⟩)
theorem ot {f : FuncId} {args avs : List AV} {nw : List Ent} {val : List Nat → AV} (hF : ba P f args nw val) {hp : Hp} (hA : i7 hp avs args) (hn : bp avs = []) (hk : ∀ e,e ∈ nw → e.kind = 1) : cM P f avs hp ⟨True,nw,[],val⟩ :=
 jS hF hA [] (fun x hx=>by cases hx) hk (.inl fun x hx=>by rw [hn] at hx;cases hx)
end
end Go.Proofs.Ytlodllmpndflcaa
namespace Go.Proofs.Ytlodllmpndflcaa
set_option linter.unusedVariables false
set_option linter.unusedSimpArgs false
open Go.RowKit
def shB (P : Program) : TSh → TypeDesc → Bool
 | .int k, .int k' => k == k'
 | .bool, .bool => true
 | .slice e, .slice e' => e == e'
 | .struct fs, .struct F => (F.toList.map fun f => (f.offset, f.type)) == fs && (F.toList.mapM fun f => (P.info? f.type).map fun i => (f.offset, i.size)).isSome
 | .other, d => !d.isRow
 | _, _ => false
theorem ou {α β : Type} {f : α → Option β} : ∀ {l : List α} {L : List β},l.mapM f = some L → ∀ (i : Nat) x,l[i]? = some x → ∃ y,f x = some y ∧ L[i]? = some y:=by
 intro l
 induction l with
 | nil => intro L _ i x h; simp at h
 | cons a l ih =>
   intro L h i x hx
   rw [List.mapM_cons] at h
   cases ha : f a with
   | none => simp [ha] at h
   | some b =>
     cases hl : l.mapM f with
     | none => simp [ha, hl] at h
     | some M =>
       simp [ha,hl] at h
       subst h
       cases i with
       | zero => simp at hx; subst hx; exact ⟨b, ha, rfl⟩
       | succ i => simpa using ih hl i x (by simpa using hx)
theorem bP {P : Program} {T : TypeId} {t : TInfo} (z : Value) (bytes : Nat) (h1 : ((P.info? T).map fun i=>(i.zero,i.size,i.bytes)) = some (some z,t.size,bytes)) (h2 : bytes ≤ 1024) (hz : t.zero = z.cells.toList.map iz) (hl : t.zero.length = t.size) (ho : t.zero.all AV.one = true)
  (hs : ((P.underlying T).map fun d=>shB P t.sh d) = some true) (he : ∀ c,t.em = some c → c.isNN = false ∧ ∃ V,c.view = some V ∧ V.len = 0 ∧ V.wd = t.size) : ∃ i z d,TOk P T t i z d:=by
 cases hi : P.info? T with
 | none => rw [hi] at h1; cases h1
 | some i =>
   rw [hi] at h1
   simp only [Option.map_some,Option.some.injEq,Prod.mk.injEq] at h1
   obtain ⟨g1,g2,g3⟩:=h1
   cases hu : P.underlying T with
   | none => rw [hu] at hs; cases hs
   | some d =>
     rw [hu] at hs
     simp only [Option.map_some,Option.some.injEq] at hs
     refine ⟨i,z,d,hi,g2,by omega,g1,by rw [hz];simp,hl,fun j hj φ hp w=>?_,ho,hu,?_,?_,he⟩
     · rw [hz] at hj ⊢
       have hj' : j < z.cells.toList.length:=by simpa using hj
       rw [fi]
       simp only [List.getD_eq_getElem?_getD,List.getElem?_map,List.getElem?_eq_getElem hj',Option.map_some,Option.getD_some]
       exact jK _
     · revert hs
       cases t.sh <;> cases d <;> intro hs <;> simp only [shB,Bool.false_eq_true,beq_iff_eq,Bool.and_eq_true,Bool.not_eq_true',fg,reduceCtorEq] at hs ⊢
       all_goals first
        | trivial
        | (rw [hs]; done)
        | (simp [TypeDesc.isRow] at hs; done)
        | rfl
        | skip
       obtain ⟨k1,k2⟩:=hs
       refine ⟨_,rfl,fun i o T' h=>?_⟩
       rw [← k1,List.getElem?_map] at h
       rename_i fs F
       cases hf : F.toList[i]? with
       | none => rw [hf] at h; cases h
       | some f =>
         rw [hf] at h
         simp only [Option.map_some,Option.some.injEq,Prod.mk.injEq] at h
         exact ⟨f,by simpa using hf,h.1,h.2⟩
     · intro F fs hsh hd
       subst hd
       rw [hsh] at hs
       simp only [shB,Bool.and_eq_true,beq_iff_eq] at hs
       obtain ⟨k1,k2⟩:=hs
       obtain ⟨places,hp⟩:=Option.isSome_iff_exists.1 k2
       refine ⟨places,hp,fun i o T' h=>?_⟩
       rw [← k1,List.getElem?_map] at h
       cases hf : F.toList[i]? with
       | none => rw [hf] at h; cases h
       | some f =>
         rw [hf] at h
         simp only [Option.map_some,Option.some.injEq,Prod.mk.injEq] at h
         obtain ⟨y,y1,y2⟩:=ou hp i f hf
         cases hi' : P.info? f.type with
         | none => rw [hi'] at y1; cases y1
         | some i' =>
           rw [hi'] at y1
           simp only [Option.map_some,Option.some.injEq] at y1
           exact ⟨i',by rw [← h.2];exact hi',by rw [y2,← y1,h.1]⟩
def tiL : List (Nat × TInfo):=[
 (2,⟨.int .i64,1,[.c (.int .i64 0)],some (.I [])⟩),
 (3,⟨.int .i64,1,[.c (.int .i64 0)],some (.I [])⟩),
 (4,⟨.bool,1,[.c (.bool false)],some (.B [])⟩),
 (5,⟨.int .u8,1,[.c (.int .u8 0)],some (.Y [])⟩),
 (6,⟨.int .u8,1,[.c (.int .u8 0)],some (.Y [])⟩),
 (7,⟨.struct [(0,2),(1,3),(2,4),(3,6)],4,[.c (.int .i64 0),.c (.int .i64 0),.c (.bool false),.c (.int .u8 0)],some (.V 4 [])⟩),
 (8,⟨.struct [(0,2),(1,3),(2,4),(3,6)],4,[.c (.int .i64 0),.c (.int .i64 0),.c (.bool false),.c (.int .u8 0)],some (.V 4 [])⟩),
 (12,⟨.int .u64,1,[.c (.int .u64 0)],none⟩),
 (15,⟨.other,1,[.k (Value.pointer none)],none⟩),
 (16,⟨.other,1,[.k (Value.pointer none)],none⟩),
 (17,⟨.other,1,[.k (Value.pointer none)],none⟩),
 (18,⟨.struct [(0,17)],1,[.k (Value.pointer none)],some (.V 1 [])⟩),
 (19,⟨.struct [(0,17)],1,[.k (Value.pointer none)],some (.V 1 [])⟩),
 (21,⟨.int .i32,1,[.c (.int .i32 0)],none⟩),
 (22,⟨.slice 2,1,[.c .nul],some (.R [])⟩),
 (23,⟨.slice 22,1,[.c .nul],some (.V 1 [])⟩),
 (24,⟨.struct [(0,22),(1,23)],2,[.c .nul,.c .nul],some (.V 2 [])⟩),
 (25,⟨.struct [(0,22),(1,23)],2,[.c .nul,.c .nul],some (.V 2 [])⟩),
 (26,⟨.struct [(0,25),(2,22)],3,[.c .nul,.c .nul,.c .nul],some (.V 3 [])⟩),
 (27,⟨.struct [(0,25),(2,22)],3,[.c .nul,.c .nul,.c .nul],some (.V 3 [])⟩),
 (29,⟨.slice 51,1,[.c .nul],some (.V 1 [])⟩),
 (31,⟨.struct [(0,22),(1,23)],2,[.c .nul,.c .nul],some (.V 2 [])⟩),
 (32,⟨.struct [(0,31),(2,22)],3,[.c .nul,.c .nul,.c .nul],some (.V 3 [])⟩),
 (33,⟨.struct [(0,31),(2,22)],3,[.c .nul,.c .nul,.c .nul],some (.V 3 [])⟩),
 (50,⟨.struct [(0,2),(1,22),(2,2)],3,[.c (.int .i64 0),.c .nul,.c (.int .i64 0)],some (.V 3 [])⟩),
 (51,⟨.struct [(0,2),(1,22),(2,2)],3,[.c (.int .i64 0),.c .nul,.c (.int .i64 0)],some (.V 3 [])⟩),
 (61,⟨.struct [(0,22),(1,22)],2,[.c .nul,.c .nul],some (.V 2 [])⟩),
 (62,⟨.struct [(0,22),(1,22)],2,[.c .nul,.c .nul],some (.V 2 [])⟩),
 (78,⟨.int .u64,1,[.c (.int .u64 0)],none⟩),
 (80,⟨.int .i64,1,[.c (.int .i64 0)],some (.I [])⟩),
 (89,⟨.int .u32,1,[.c (.int .u32 0)],none⟩),
 (91,⟨.int .u64,1,[.c (.int .u64 0)],none⟩),
 (92,⟨.int .u64,1,[.c (.int .u64 0)],none⟩),
 (96,⟨.other,1,[.k (Value.pointer none)],none⟩),
 (99,⟨.other,1,[.k (Value.pointer none)],none⟩),
 (109,⟨.int .u8,1,[.c (.int .u8 0)],some (.Y [])⟩),
 (110,⟨.int .u8,1,[.c (.int .u8 0)],some (.Y [])⟩),
 (112,⟨.other,1,[.k (Value.pointer none)],none⟩),
 (113,⟨.int .i32,1,[.c (.int .i32 0)],none⟩),
 (114,⟨.int .i32,1,[.c (.int .i32 0)],none⟩)]
def ti : TI:=fun T=>tiL.lookup T
theorem ti2 : ti 2 = some ⟨.int .i64,1,[.c (.int .i64 0)],some (.I [])⟩:=rfl
theorem ti3 : ti 3 = some ⟨.int .i64,1,[.c (.int .i64 0)],some (.I [])⟩:=rfl
theorem ti4 : ti 4 = some ⟨.bool,1,[.c (.bool false)],some (.B [])⟩:=rfl
theorem ti5 : ti 5 = some ⟨.int .u8,1,[.c (.int .u8 0)],some (.Y [])⟩:=rfl
theorem ti6 : ti 6 = some ⟨.int .u8,1,[.c (.int .u8 0)],some (.Y [])⟩:=rfl
theorem ti7 : ti 7 = some ⟨.struct [(0,2),(1,3),(2,4),(3,6)],4,[.c (.int .i64 0),.c (.int .i64 0),.c (.bool false),.c (.int .u8 0)],some (.V 4 [])⟩:=rfl
theorem ti8 : ti 8 = some ⟨.struct [(0,2),(1,3),(2,4),(3,6)],4,[.c (.int .i64 0),.c (.int .i64 0),.c (.bool false),.c (.int .u8 0)],some (.V 4 [])⟩:=rfl
theorem vP : ti 12 = some ⟨.int .u64,1,[.c (.int .u64 0)],none⟩:=rfl
theorem vQ : ti 15 = some ⟨.other,1,[.k (Value.pointer none)],none⟩:=rfl
theorem vR : ti 16 = some ⟨.other,1,[.k (Value.pointer none)],none⟩:=rfl
theorem vS : ti 17 = some ⟨.other,1,[.k (Value.pointer none)],none⟩:=rfl
theorem vT : ti 18 = some ⟨.struct [(0,17)],1,[.k (Value.pointer none)],some (.V 1 [])⟩:=rfl
theorem vU : ti 19 = some ⟨.struct [(0,17)],1,[.k (Value.pointer none)],some (.V 1 [])⟩:=rfl
theorem vV : ti 21 = some ⟨.int .i32,1,[.c (.int .i32 0)],none⟩:=rfl
theorem vW : ti 22 = some ⟨.slice 2,1,[.c .nul],some (.R [])⟩:=rfl
theorem vX : ti 23 = some ⟨.slice 22,1,[.c .nul],some (.V 1 [])⟩:=rfl
theorem vY : ti 24 = some ⟨.struct [(0,22),(1,23)],2,[.c .nul,.c .nul],some (.V 2 [])⟩:=rfl
theorem vZ : ti 25 = some ⟨.struct [(0,22),(1,23)],2,[.c .nul,.c .nul],some (.V 2 [])⟩:=rfl
theorem v6 : ti 26 = some ⟨.struct [(0,25),(2,22)],3,[.c .nul,.c .nul,.c .nul],some (.V 3 [])⟩:=rfl
theorem v7 : ti 27 = some ⟨.struct [(0,25),(2,22)],3,[.c .nul,.c .nul,.c .nul],some (.V 3 [])⟩:=rfl
theorem v8 : ti 29 = some ⟨.slice 51,1,[.c .nul],some (.V 1 [])⟩:=rfl
theorem wa : ti 31 = some ⟨.struct [(0,22),(1,23)],2,[.c .nul,.c .nul],some (.V 2 [])⟩:=rfl
theorem wb : ti 32 = some ⟨.struct [(0,31),(2,22)],3,[.c .nul,.c .nul,.c .nul],some (.V 3 [])⟩:=rfl
theorem wc : ti 33 = some ⟨.struct [(0,31),(2,22)],3,[.c .nul,.c .nul,.c .nul],some (.V 3 [])⟩:=rfl
theorem we : ti 50 = some ⟨.struct [(0,2),(1,22),(2,2)],3,[.c (.int .i64 0),.c .nul,.c (.int .i64 0)],some (.V 3 [])⟩:=rfl
theorem wg : ti 51 = some ⟨.struct [(0,2),(1,22),(2,2)],3,[.c (.int .i64 0),.c .nul,.c (.int .i64 0)],some (.V 3 [])⟩:=rfl
theorem wh : ti 61 = some ⟨.struct [(0,22),(1,22)],2,[.c .nul,.c .nul],some (.V 2 [])⟩:=rfl
theorem wi : ti 62 = some ⟨.struct [(0,22),(1,22)],2,[.c .nul,.c .nul],some (.V 2 [])⟩:=rfl
theorem wj : ti 78 = some ⟨.int .u64,1,[.c (.int .u64 0)],none⟩:=rfl
theorem wk : ti 80 = some ⟨.int .i64,1,[.c (.int .i64 0)],some (.I [])⟩:=rfl
theorem wm : ti 89 = some ⟨.int .u32,1,[.c (.int .u32 0)],none⟩:=rfl
theorem wn : ti 91 = some ⟨.int .u64,1,[.c (.int .u64 0)],none⟩:=rfl
theorem ws : ti 92 = some ⟨.int .u64,1,[.c (.int .u64 0)],none⟩:=rfl
theorem wt : ti 96 = some ⟨.other,1,[.k (Value.pointer none)],none⟩:=rfl
theorem wu : ti 99 = some ⟨.other,1,[.k (Value.pointer none)],none⟩:=rfl
theorem t8 : ti 109 = some ⟨.int .u8,1,[.c (.int .u8 0)],some (.Y [])⟩:=rfl
theorem ub : ti 110 = some ⟨.int .u8,1,[.c (.int .u8 0)],some (.Y [])⟩:=rfl
theorem uc : ti 112 = some ⟨.other,1,[.k (Value.pointer none)],none⟩:=rfl
theorem ud : ti 113 = some ⟨.int .i32,1,[.c (.int .i32 0)],none⟩:=rfl
theorem uf : ti 114 = some ⟨.int .i32,1,[.c (.int .i32 0)],none⟩:=rfl
theorem wv : ∃ i z d,TOk Try.prog 2 ⟨.int .i64,1,[.c (.int .i64 0)],some (.I [])⟩ i z d:=bP (Value.int .i64 0) 8 (by kernel_rfl) (by decide) rfl rfl rfl (by kernel_rfl) (fun c h=>by injection h with h;subst h;exact ⟨rfl,_,rfl,rfl,rfl⟩)
theorem ww : ∃ i z d,TOk Try.prog 3 ⟨.int .i64,1,[.c (.int .i64 0)],some (.I [])⟩ i z d:=bP (Value.int .i64 0) 8 (by kernel_rfl) (by decide) rfl rfl rfl (by kernel_rfl) (fun c h=>by injection h with h;subst h;exact ⟨rfl,_,rfl,rfl,rfl⟩)
theorem wz : ∃ i z d,TOk Try.prog 4 ⟨.bool,1,[.c (.bool false)],some (.B [])⟩ i z d:=bP (Value.bool false) 1 (by kernel_rfl) (by decide) rfl rfl rfl (by kernel_rfl) (fun c h=>by injection h with h;subst h;exact ⟨rfl,_,rfl,rfl,rfl⟩)
theorem wA : ∃ i z d,TOk Try.prog 5 ⟨.int .u8,1,[.c (.int .u8 0)],some (.Y [])⟩ i z d:=bP (Value.int .u8 0) 1 (by kernel_rfl) (by decide) rfl rfl rfl (by kernel_rfl) (fun c h=>by injection h with h;subst h;exact ⟨rfl,_,rfl,rfl,rfl⟩)
theorem wB : ∃ i z d,TOk Try.prog 6 ⟨.int .u8,1,[.c (.int .u8 0)],some (.Y [])⟩ i z d:=bP (Value.int .u8 0) 1 (by kernel_rfl) (by decide) rfl rfl rfl (by kernel_rfl) (fun c h=>by injection h with h;subst h;exact ⟨rfl,_,rfl,rfl,rfl⟩)
theorem wE : ∃ i z d,TOk Try.prog 7 ⟨.struct [(0,2),(1,3),(2,4),(3,6)],4,[.c (.int .i64 0),.c (.int .i64 0),.c (.bool false),.c (.int .u8 0)],some (.V 4 [])⟩ i z d:=bP (.agg #[Value.int .i64 0,Value.int .i64 0,Value.bool false,Value.int .u8 0]) 24 (by kernel_rfl) (by decide) rfl rfl rfl (by kernel_rfl) (fun c h=>by injection h with h;subst h;exact ⟨rfl,_,rfl,rfl,rfl⟩)
theorem wH : ∃ i z d,TOk Try.prog 8 ⟨.struct [(0,2),(1,3),(2,4),(3,6)],4,[.c (.int .i64 0),.c (.int .i64 0),.c (.bool false),.c (.int .u8 0)],some (.V 4 [])⟩ i z d:=bP (.agg #[Value.int .i64 0,Value.int .i64 0,Value.bool false,Value.int .u8 0]) 24 (by kernel_rfl) (by decide) rfl rfl rfl (by kernel_rfl) (fun c h=>by injection h with h;subst h;exact ⟨rfl,_,rfl,rfl,rfl⟩)
theorem ug : ∃ i z d,TOk Try.prog 12 ⟨.int .u64,1,[.c (.int .u64 0)],none⟩ i z d:=bP (Value.int .u64 0) 8 (by kernel_rfl) (by decide) rfl rfl rfl (by kernel_rfl) (fun c h=>by cases h)
theorem uh : ∃ i z d,TOk Try.prog 15 ⟨.other,1,[.k (Value.pointer none)],none⟩ i z d:=bP (Value.pointer none) 8 (by kernel_rfl) (by decide) rfl rfl rfl (by kernel_rfl) (fun c h=>by cases h)
theorem ui : ∃ i z d,TOk Try.prog 16 ⟨.other,1,[.k (Value.pointer none)],none⟩ i z d:=bP (Value.pointer none) 8 (by kernel_rfl) (by decide) rfl rfl rfl (by kernel_rfl) (fun c h=>by cases h)
theorem uj : ∃ i z d,TOk Try.prog 17 ⟨.other,1,[.k (Value.pointer none)],none⟩ i z d:=bP (Value.pointer none) 8 (by kernel_rfl) (by decide) rfl rfl rfl (by kernel_rfl) (fun c h=>by cases h)
theorem uk : ∃ i z d,TOk Try.prog 18 ⟨.struct [(0,17)],1,[.k (Value.pointer none)],some (.V 1 [])⟩ i z d:=bP (.agg #[Value.pointer none]) 8 (by kernel_rfl) (by decide) rfl rfl rfl (by kernel_rfl) (fun c h=>by injection h with h;subst h;exact ⟨rfl,_,rfl,rfl,rfl⟩)
theorem ul : ∃ i z d,TOk Try.prog 19 ⟨.struct [(0,17)],1,[.k (Value.pointer none)],some (.V 1 [])⟩ i z d:=bP (.agg #[Value.pointer none]) 8 (by kernel_rfl) (by decide) rfl rfl rfl (by kernel_rfl) (fun c h=>by injection h with h;subst h;exact ⟨rfl,_,rfl,rfl,rfl⟩)
theorem um : ∃ i z d,TOk Try.prog 21 ⟨.int .i32,1,[.c (.int .i32 0)],none⟩ i z d:=bP (Value.int .i32 0) 4 (by kernel_rfl) (by decide) rfl rfl rfl (by kernel_rfl) (fun c h=>by cases h)
theorem un : ∃ i z d,TOk Try.prog 22 ⟨.slice 2,1,[.c .nul],some (.R [])⟩ i z d:=bP (Value.slice none 0 0) 24 (by kernel_rfl) (by decide) rfl rfl rfl (by kernel_rfl) (fun c h=>by injection h with h;subst h;exact ⟨rfl,_,rfl,rfl,rfl⟩)
theorem uo : ∃ i z d,TOk Try.prog 23 ⟨.slice 22,1,[.c .nul],some (.V 1 [])⟩ i z d:=bP (Value.slice none 0 0) 24 (by kernel_rfl) (by decide) rfl rfl rfl (by kernel_rfl) (fun c h=>by injection h with h;subst h;exact ⟨rfl,_,rfl,rfl,rfl⟩)
theorem uq : ∃ i z d,TOk Try.prog 24 ⟨.struct [(0,22),(1,23)],2,[.c .nul,.c .nul],some (.V 2 [])⟩ i z d:=bP (.agg #[Value.slice none 0 0,Value.slice none 0 0]) 48 (by kernel_rfl) (by decide) rfl rfl rfl (by kernel_rfl) (fun c h=>by injection h with h;subst h;exact ⟨rfl,_,rfl,rfl,rfl⟩)
theorem ur : ∃ i z d,TOk Try.prog 25 ⟨.struct [(0,22),(1,23)],2,[.c .nul,.c .nul],some (.V 2 [])⟩ i z d:=bP (.agg #[Value.slice none 0 0,Value.slice none 0 0]) 48 (by kernel_rfl) (by decide) rfl rfl rfl (by kernel_rfl) (fun c h=>by injection h with h;subst h;exact ⟨rfl,_,rfl,rfl,rfl⟩)
theorem ut : ∃ i z d,TOk Try.prog 26 ⟨.struct [(0,25),(2,22)],3,[.c .nul,.c .nul,.c .nul],some (.V 3 [])⟩ i z d:=bP (.agg #[Value.slice none 0 0,Value.slice none 0 0,Value.slice none 0 0]) 72 (by kernel_rfl) (by decide) rfl rfl rfl (by kernel_rfl) (fun c h=>by injection h with h;subst h;exact ⟨rfl,_,rfl,rfl,rfl⟩)
theorem uu : ∃ i z d,TOk Try.prog 27 ⟨.struct [(0,25),(2,22)],3,[.c .nul,.c .nul,.c .nul],some (.V 3 [])⟩ i z d:=bP (.agg #[Value.slice none 0 0,Value.slice none 0 0,Value.slice none 0 0]) 72 (by kernel_rfl) (by decide) rfl rfl rfl (by kernel_rfl) (fun c h=>by injection h with h;subst h;exact ⟨rfl,_,rfl,rfl,rfl⟩)
theorem uv : ∃ i z d,TOk Try.prog 29 ⟨.slice 51,1,[.c .nul],some (.V 1 [])⟩ i z d:=bP (Value.slice none 0 0) 24 (by kernel_rfl) (by decide) rfl rfl rfl (by kernel_rfl) (fun c h=>by injection h with h;subst h;exact ⟨rfl,_,rfl,rfl,rfl⟩)
theorem uw : ∃ i z d,TOk Try.prog 31 ⟨.struct [(0,22),(1,23)],2,[.c .nul,.c .nul],some (.V 2 [])⟩ i z d:=bP (.agg #[Value.slice none 0 0,Value.slice none 0 0]) 48 (by kernel_rfl) (by decide) rfl rfl rfl (by kernel_rfl) (fun c h=>by injection h with h;subst h;exact ⟨rfl,_,rfl,rfl,rfl⟩)
theorem ux : ∃ i z d,TOk Try.prog 32 ⟨.struct [(0,31),(2,22)],3,[.c .nul,.c .nul,.c .nul],some (.V 3 [])⟩ i z d:=bP (.agg #[Value.slice none 0 0,Value.slice none 0 0,Value.slice none 0 0]) 72 (by kernel_rfl) (by decide) rfl rfl rfl (by kernel_rfl) (fun c h=>by injection h with h;subst h;exact ⟨rfl,_,rfl,rfl,rfl⟩)
theorem uy : ∃ i z d,TOk Try.prog 33 ⟨.struct [(0,31),(2,22)],3,[.c .nul,.c .nul,.c .nul],some (.V 3 [])⟩ i z d:=bP (.agg #[Value.slice none 0 0,Value.slice none 0 0,Value.slice none 0 0]) 72 (by kernel_rfl) (by decide) rfl rfl rfl (by kernel_rfl) (fun c h=>by injection h with h;subst h;exact ⟨rfl,_,rfl,rfl,rfl⟩)
theorem uz : ∃ i z d,TOk Try.prog 50 ⟨.struct [(0,2),(1,22),(2,2)],3,[.c (.int .i64 0),.c .nul,.c (.int .i64 0)],some (.V 3 [])⟩ i z d:=bP (.agg #[Value.int .i64 0,Value.slice none 0 0,Value.int .i64 0]) 40 (by kernel_rfl) (by decide) rfl rfl rfl (by kernel_rfl) (fun c h=>by injection h with h;subst h;exact ⟨rfl,_,rfl,rfl,rfl⟩)
theorem uA : ∃ i z d,TOk Try.prog 51 ⟨.struct [(0,2),(1,22),(2,2)],3,[.c (.int .i64 0),.c .nul,.c (.int .i64 0)],some (.V 3 [])⟩ i z d:=bP (.agg #[Value.int .i64 0,Value.slice none 0 0,Value.int .i64 0]) 40 (by kernel_rfl) (by decide) rfl rfl rfl (by kernel_rfl) (fun c h=>by injection h with h;subst h;exact ⟨rfl,_,rfl,rfl,rfl⟩)
theorem uB : ∃ i z d,TOk Try.prog 61 ⟨.struct [(0,22),(1,22)],2,[.c .nul,.c .nul],some (.V 2 [])⟩ i z d:=bP (.agg #[Value.slice none 0 0,Value.slice none 0 0]) 48 (by kernel_rfl) (by decide) rfl rfl rfl (by kernel_rfl) (fun c h=>by injection h with h;subst h;exact ⟨rfl,_,rfl,rfl,rfl⟩)
theorem uC : ∃ i z d,TOk Try.prog 62 ⟨.struct [(0,22),(1,22)],2,[.c .nul,.c .nul],some (.V 2 [])⟩ i z d:=bP (.agg #[Value.slice none 0 0,Value.slice none 0 0]) 48 (by kernel_rfl) (by decide) rfl rfl rfl (by kernel_rfl) (fun c h=>by injection h with h;subst h;exact ⟨rfl,_,rfl,rfl,rfl⟩)
theorem uD : ∃ i z d,TOk Try.prog 78 ⟨.int .u64,1,[.c (.int .u64 0)],none⟩ i z d:=bP (Value.int .u64 0) 8 (by kernel_rfl) (by decide) rfl rfl rfl (by kernel_rfl) (fun c h=>by cases h)
theorem uE : ∃ i z d,TOk Try.prog 80 ⟨.int .i64,1,[.c (.int .i64 0)],some (.I [])⟩ i z d:=bP (Value.int .i64 0) 8 (by kernel_rfl) (by decide) rfl rfl rfl (by kernel_rfl) (fun c h=>by injection h with h;subst h;exact ⟨rfl,_,rfl,rfl,rfl⟩)
theorem uF : ∃ i z d,TOk Try.prog 89 ⟨.int .u32,1,[.c (.int .u32 0)],none⟩ i z d:=bP (Value.int .u32 0) 4 (by kernel_rfl) (by decide) rfl rfl rfl (by kernel_rfl) (fun c h=>by cases h)
theorem uG : ∃ i z d,TOk Try.prog 91 ⟨.int .u64,1,[.c (.int .u64 0)],none⟩ i z d:=bP (Value.int .u64 0) 8 (by kernel_rfl) (by decide) rfl rfl rfl (by kernel_rfl) (fun c h=>by cases h)
theorem uH : ∃ i z d,TOk Try.prog 92 ⟨.int .u64,1,[.c (.int .u64 0)],none⟩ i z d:=bP (Value.int .u64 0) 8 (by kernel_rfl) (by decide) rfl rfl rfl (by kernel_rfl) (fun c h=>by cases h)
theorem uI : ∃ i z d,TOk Try.prog 96 ⟨.other,1,[.k (Value.pointer none)],none⟩ i z d:=bP (Value.pointer none) 8 (by kernel_rfl) (by decide) rfl rfl rfl (by kernel_rfl) (fun c h=>by cases h)
theorem uJ : ∃ i z d,TOk Try.prog 99 ⟨.other,1,[.k (Value.pointer none)],none⟩ i z d:=bP (Value.pointer none) 8 (by kernel_rfl) (by decide) rfl rfl rfl (by kernel_rfl) (fun c h=>by cases h)
theorem sS : ∃ i z d,TOk Try.prog 109 ⟨.int .u8,1,[.c (.int .u8 0)],some (.Y [])⟩ i z d:=bP (Value.int .u8 0) 1 (by kernel_rfl) (by decide) rfl rfl rfl (by kernel_rfl) (fun c h=>by injection h with h;subst h;exact ⟨rfl,_,rfl,rfl,rfl⟩)
theorem sT : ∃ i z d,TOk Try.prog 110 ⟨.int .u8,1,[.c (.int .u8 0)],some (.Y [])⟩ i z d:=bP (Value.int .u8 0) 1 (by kernel_rfl) (by decide) rfl rfl rfl (by kernel_rfl) (fun c h=>by injection h with h;subst h;exact ⟨rfl,_,rfl,rfl,rfl⟩)
theorem sU : ∃ i z d,TOk Try.prog 112 ⟨.other,1,[.k (Value.pointer none)],none⟩ i z d:=bP (Value.pointer none) 8 (by kernel_rfl) (by decide) rfl rfl rfl (by kernel_rfl) (fun c h=>by cases h)
theorem sV : ∃ i z d,TOk Try.prog 113 ⟨.int .i32,1,[.c (.int .i32 0)],none⟩ i z d:=bP (Value.int .i32 0) 4 (by kernel_rfl) (by decide) rfl rfl rfl (by kernel_rfl) (fun c h=>by cases h)
theorem sW : ∃ i z d,TOk Try.prog 114 ⟨.int .i32,1,[.c (.int .i32 0)],none⟩ i z d:=bP (Value.int .i32 0) 4 (by kernel_rfl) (by decide) rfl rfl rfl (by kernel_rfl) (fun c h=>by cases h)
theorem my {l : List (Nat × TInfo)} {T : Nat} {t : TInfo} (h : l.lookup T = some t) : (T,t) ∈ l:=by
 induction l with
 | nil => cases h
 | cons p l ih =>
   obtain ⟨a,b⟩:=p
   rw [List.lookup_cons] at h
   split at h
   · rename_i hb
     injection h with h
     subst h
     have : T = a:=by simpa using hb
     subst this;exact List.mem_cons_self
   · exact List.mem_cons_of_mem _ (ih h)
theorem uK : ∀ p,p ∈ tiL → ∃ i z d,TOk Try.prog p.1 p.2 i z d:=List.forall_mem_cons.2 ⟨wv,List.forall_mem_cons.2 ⟨ww,List.forall_mem_cons.2 ⟨wz,List.forall_mem_cons.2 ⟨wA,List.forall_mem_cons.2 ⟨wB,List.forall_mem_cons.2 ⟨wE,List.forall_mem_cons.2 ⟨wH,List.forall_mem_cons.2 ⟨ug,List.forall_mem_cons.2 ⟨uh,List.forall_mem_cons.2 ⟨ui,List.forall_mem_cons.2 ⟨uj,List.forall_mem_cons.2 ⟨uk,List.forall_mem_cons.2 ⟨ul,List.forall_mem_cons.2 ⟨um,List.forall_mem_cons.2 ⟨un,List.forall_mem_cons.2 ⟨uo,List.forall_mem_cons.2 ⟨uq,List.forall_mem_cons.2 ⟨ur,List.forall_mem_cons.2 ⟨ut,List.forall_mem_cons.2 ⟨uu,List.forall_mem_cons.2 ⟨uv,List.forall_mem_cons.2 ⟨uw,List.forall_mem_cons.2 ⟨ux,List.forall_mem_cons.2 ⟨uy,List.forall_mem_cons.2 ⟨uz,List.forall_mem_cons.2 ⟨uA,List.forall_mem_cons.2 ⟨uB,List.forall_mem_cons.2 ⟨uC,List.forall_mem_cons.2 ⟨uD,List.forall_mem_cons.2 ⟨uE,List.forall_mem_cons.2 ⟨uF,List.forall_mem_cons.2 ⟨uG,List.forall_mem_cons.2 ⟨uH,List.forall_mem_cons.2 ⟨uI,List.forall_mem_cons.2 ⟨uJ,List.forall_mem_cons.2 ⟨sS,List.forall_mem_cons.2 ⟨sT,List.forall_mem_cons.2 ⟨sU,List.forall_mem_cons.2 ⟨sV,List.forall_mem_cons.2 ⟨sW,List.forall_mem_nil _⟩⟩⟩⟩⟩⟩⟩⟩⟩⟩⟩⟩⟩⟩⟩⟩⟩⟩⟩⟩⟩⟩⟩⟩⟩⟩⟩⟩⟩⟩⟩⟩⟩⟩⟩⟩⟩⟩⟩⟩
theorem aF : cP Try.prog ti:=fun T t h=>uK (T,t) (my h)
end Go.Proofs.Ytlodllmpndflcaa
namespace Go.Proofs.Ytlodllmpndflcaa
set_option linter.unusedVariables false
set_option linter.unusedSimpArgs false
open Go.RowKit
structure Nm (hp0 : Hp) (ν : Nat → Nat) : Prop where
 inj : ∀ i j,ν i = ν j → i = j
 out : ∀ i,hp0 (ν i) = none
noncomputable def hpL (hp0 : Hp) (ν : Nat → Nat) (L : List Ent) : Hp:=fun x=>@dite _ (∃ i,x = ν i) (Classical.propDecidable _) (fun h=>L[Classical.choose h]?) (fun _=>hp0 x)
section
variable {hp0 : Hp} {ν : Nat → Nat} {L : List Ent}
theorem aj (hN : Nm hp0 ν) (i : Nat) : hpL hp0 ν L (ν i) = L[i]?:=by
 have h : ∃ j,ν i = ν j:=⟨i,rfl⟩
 unfold hpL
 rw [dif_pos h,hN.inj _ _ (Classical.choose_spec h).symm]
theorem dq {x : Nat} (h : ∀ i,x ≠ ν i) : hpL hp0 ν L x = hp0 x:=by
 unfold hpL
 rw [dif_neg fun ⟨i,e⟩=>h i e]
theorem nl (hN : Nm hp0 ν) : hpL hp0 ν [] = hp0:=by
 funext x
 by_cases h : ∃ i,x = ν i
 · obtain ⟨i,rfl⟩:=h
   rw [aj hN,hN.out];rfl
 · exact dq fun i e=>h ⟨i,e⟩
theorem an (hN : Nm hp0 ν) {i : Nat} (hi : i < L.length) (e : Ent) : upd (hpL hp0 ν L) (ν i) (some e) = hpL hp0 ν (L.set i e):=by
 funext x
 by_cases h : ∃ j,x = ν j
 · obtain ⟨j,rfl⟩:=h
   rw [aj hN,List.getElem?_set]
   by_cases hij : i = j
   · subst hij;rw [bt,if_pos rfl,if_pos hi]
   · rw [if_neg hij,cc fun e=>hij (hN.inj _ _ e).symm,aj hN]
 · have h' : ∀ j,x ≠ ν j:=fun j e=>h ⟨j,e⟩
   rw [dq h',cc (h' i),dq h']
theorem rB (hN : Nm hp0 ν) (e : Ent) : upd (hpL hp0 ν L) (ν L.length) (some e) = hpL hp0 ν (L ++ [e]):=by
 funext x
 by_cases h : ∃ j,x = ν j
 · obtain ⟨j,rfl⟩:=h
   rw [aj hN]
   by_cases hij : j = L.length
   · subst hij;rw [bt];simp
   · rw [cc fun e=>hij (hN.inj _ _ e),aj hN]
     rcases Nat.lt_or_ge j L.length with h|h
     · rw [List.getElem?_append_left h]
     · rw [List.getElem?_eq_none h,List.getElem?_eq_none (by simp;omega)]
 · have h' : ∀ j,x ≠ ν j:=fun j e=>h ⟨j,e⟩
   rw [dq h',cc (h' _),dq h']
theorem rC (hN : Nm hp0 ν) : hpL hp0 ν L (ν L.length) = none:=by
 rw [aj hN];simp
def nmL (ν : Nat → Nat) (n : Nat) : List Ent → List Nat
 | [] => []
 | _ :: es => ν n :: nmL ν (n + 1) es
def FN (hp0 : Hp) (ν : Nat → Nat) : List Ent → Hp → (Hp → List Nat → Prop) → Prop
 | [], hp, k => k hp []
 | e :: es, hp, k => ∃ L, hp = hpL hp0 ν L ∧ k (hpL hp0 ν (L ++ e :: es)) (nmL ν L.length (e :: es))
theorem sX (hN : Nm hp0 ν) : ∀ (es L : List Ent) (acc : List Nat) (k : Hp → List Nat → Prop),k (hpL hp0 ν (L ++ es)) (acc ++ nmL ν L.length es) → FA es (hpL hp0 ν L) acc k:=by
 intro es
 induction es with
 | nil => intro L acc k h; simpa [FA, nmL] using h
 | cons e es ih =>
   intro L acc k h
   refine ⟨ν L.length,rC hN,?_⟩
   rw [rB hN]
   refine ih _ _ _ ?_
   simpa [nmL] using h
theorem np (hN : Nm hp0 ν) {es : List Ent} {hp : Hp} {k : Hp → List Nat → Prop} (h : FN hp0 ν es hp k) : FA es hp [] k:=by
 cases es with
 | nil => exact h
 | cons e es =>
   obtain ⟨L,rfl,h⟩:=h
   exact sX hN _ _ _ _ h
end
theorem uL {hp0 : Hp} (h : ir hp0) : ∃ ν,Nm hp0 ν:=by
 obtain ⟨b,hb⟩:=h
 exact ⟨fun i=>b + i,fun i j e=>Nat.add_left_cancel e,fun i=>hb _ (by omega)⟩
def tmL (l : List (Nat × AV)) : Nat → AV:=fun t=>match l.lookup t with
 | some a => a
 | none => .any
theorem nq (t : Nat) : tmL [] t = .any:=rfl
theorem gw (t : Nat) (a : AV) (l : List (Nat × AV)) : tmL ((t,a) :: l) t = a:=by
 unfold tmL;rw [List.lookup_cons,beq_self_eq_true]
theorem kC {s t : Nat} (h : s ≠ t) (a : AV) (l : List (Nat × AV)) : tmL ((t,a) :: l) s = tmL l s:=by
 unfold tmL;rw [List.lookup_cons,beq_eq_false_iff_ne.2 h]
theorem aW (s t : Nat) (a : AV) (l : List (Nat × AV)) : tmL ((s,a) :: l) t = if t = s then a else tmL l t:=by
 by_cases h : t = s
 · subst h;rw [gw,if_pos rfl]
 · rw [kC h,if_neg h]
theorem dr (l : List (Nat × AV)) (t : Nat) (a : AV) : upd (tmL l) t a = tmL ((t,a) :: l):=by
 funext s
 by_cases h : s = t
 · subst h;rw [bt,gw]
 · rw [cc h,kC h]
def cg (n : Nat) : List AV → List (Nat × AV)
 | [] => []
 | a :: l => (n, a) :: cg (n + 1) l
theorem pS : ∀ (args : List AV) (n : Nat),tmL (cg n args) = fun t=>if n ≤ t then args.getD (t - n) .any else .any:=by
 intro args
 induction args with
 | nil => intro n; funext t; rw [cg, nq]; simp
 | cons a l ih =>
   intro n;funext t
   rw [cg]
   by_cases h : t = n
   · subst h;rw [gw];simp
   · rw [kC h,ih]
     by_cases h2 : n + 1 ≤ t
     · obtain ⟨d,rfl⟩ : ∃ d,t = n + 1 + d:=⟨t - (n + 1),by omega⟩
       show (if _ then _ else _) = _
       rw [if_pos h2,if_pos (by omega)]
       have e1 : n + 1 + d - (n + 1) = d:=by omega
       have e2 : n + 1 + d - n = d + 1:=by omega
       rw [e1,e2,List.getD_cons_succ]
     · show (if _ then _ else _) = _
       rw [if_neg h2,if_neg (by omega)]
theorem pT (args : List AV) : pM args = tmL (cg 0 args):=by
 rw [pS];funext t;simp [pM]
structure Bs (hB hp0 : Hp) (ν : Nat → Nat) (k : Nat) : Prop where
 ext : ∀ x e,hp0 x = some e → e.kind = 3
 out : ∀ x,(∀ i,x ≠ ν i) → hB x = hp0 x
 inn : ∀ i,k ≤ i → hB (ν i) = none
 own : ∀ i e,hB (ν i) = some e → e.kind < 2
theorem Bs.base {hp0 : Hp} {ν : Nat → Nat} (hX : Ext hp0) (hN : Nm hp0 ν) : Bs hp0 hp0 ν 0:=⟨hX,fun _ _=>rfl,fun i _=>hN.out i,fun i e h=>by rw [hN.out] at h;cases h⟩
section
variable {P : Program} {ti : TI} {N : Nat} {hp0 : Hp} {ν : Nat → Nat} {ops : Array Oper}
def aws (P : Program) (ti : TI) (hp0 : Hp) (ν : Nat → Nat) (ops : Array Oper) : List Oper → ((Nat → AV) → Hp → Prop) → (Nat → AV) → Hp → Prop
 | [], K, tm, hp => K tm hp
 | o :: l, K, tm, hp =>
   match o.guard with
   | none => ez P ti o.op (evT tm) hp fun E => FN hp0 ν E.nw (aY hp E.up) fun hp' ns => aws P ti hp0 ν ops l K (cn tm o.dst (E.val ns)) hp'
   | some (j, want) => match (ops[j]?).bind (·.dst) with
     | none => False
     | some d => match tm d with
       | .c (.bool t) => (t = want → ez P ti o.op (evT tm) hp fun E => FN hp0 ν E.nw (aY hp E.up) fun hp' ns => aws P ti hp0 ν ops l K (cn tm o.dst (E.val ns)) hp') ∧
          (t ≠ want → aws P ti hp0 ν ops l K (cn tm o.dst (.k undef)) hp)
       | .k v => v = undef ∧ aws P ti hp0 ν ops l K (cn tm o.dst (.k undef)) hp
       | _ => False
theorem iE {es : List Ent} {hp : Hp} {k k' : Hp → List Nat → Prop} (h : FN hp0 ν es hp k) (hk : ∀ hp ns,k hp ns → k' hp ns) : FN hp0 ν es hp k':=by
 cases es with
 | nil => exact hk _ _ h
 | cons e es => obtain ⟨L, h1, h2⟩ := h; exact ⟨L, h1, hk _ _ h2⟩
theorem fF {o : Op} {ev : Operand → AV} {hp : Hp} {k k' : Eff → Prop} (h : ez P ti o ev hp k) (hk : ∀ E,k E → k' E) : ez P ti o ev hp k':=by
 unfold ez at h ⊢
 split at h
 · obtain ⟨E,h1,h2⟩:=h;exact ⟨E,h1,hk _ h2⟩
 · split at h
   · exact ⟨h.1,hk _ h.2⟩
   · exact h
theorem sY (hN : Nm hp0 ν) {K : (Nat → AV) → Hp → Prop} : ∀ (l : List Oper) (acc : List Foot) (tm : Nat → AV) (hp : Hp),aws P ti hp0 ν ops l K tm hp → d9 P ti ops l (fun _ tm hp=>K tm hp) acc tm hp:=by
 intro l
 induction l with
 | nil => intro acc tm hp h; exact h
 | cons o l ih =>
   intro acc tm hp h
   simp only [aws] at h
   simp only [d9]
   split at h
   · rename_i hg;rw [hg]
     exact fF h fun E h=>np hN (iE h fun hp ns h=>ih _ _ _ h)
   · rename_i j want hg;rw [hg]
     split at h
     · exact h.elim
     · rename_i d hd;simp only [hd]
       split at h
       · rename_i t ht;simp only [ht]
         exact ⟨fun e=>fF (h.1 e) fun E h=>np hN (iE h fun hp ns h=>ih _ _ _ h),fun e=>ih _ _ _ (h.2 e)⟩
       · rename_i v ht;simp only [ht]
         exact ⟨h.1,ih _ _ _ h.2⟩
       · exact h.elim
theorem uM {K : (Nat → AV) → Hp → Prop} {tm : Nat → AV} {hp : Hp} (h : K tm hp) : aws P ti hp0 ν ops [] K tm hp:=h
theorem uN {o : Oper} {l : List Oper} {K : (Nat → AV) → Hp → Prop} {tm : Nat → AV} {hp : Hp} {j d : Nat} {want : Bool} (hg : o.guard = some (j,want)) (hd : (ops[j]?).bind (·.dst) = some d) (ht : tm d = .c (.bool want))
  (h : aws P ti hp0 ν ops ({ o with guard:=none } :: l) K tm hp) : aws P ti hp0 ν ops (o :: l) K tm hp:=by
 simp only [aws,hg,hd,ht,forall_const,ne_eq,not_true_eq_false,false_imp_iff,and_true] at h ⊢
 exact h
theorem sZ {o : Oper} {l : List Oper} {K : (Nat → AV) → Hp → Prop} {tm : Nat → AV} {hp : Hp} {j d : Nat} {want : Bool} (hg : o.guard = some (j,want)) (hd : (ops[j]?).bind (·.dst) = some d) (ht : tm d = .c (.bool (!want)))
  (h : aws P ti hp0 ν ops l K (cn tm o.dst (.k undef)) hp) : aws P ti hp0 ν ops (o :: l) K tm hp:=by
 simp only [aws,hg,hd,ht]
 exact ⟨fun e=>absurd e (by cases want <;> simp),fun _=>h⟩
theorem gx {α : Type} (f : Nat → α) (t : Nat) (v : α) (h : f t = v) : upd f t v = f:=by
 funext s
 by_cases e : s = t
 · subst e;rw [bt,h]
 · rw [cc e]
theorem rD {o : Oper} {l : List Oper} {K : (Nat → AV) → Hp → Prop} {tm : Nat → AV} {hp : Hp} {j d : Nat} {want t : Bool} (hg : o.guard = some (j,want)) (hd : (ops[j]?).bind (·.dst) = some d) (ht : tm d = .c (.bool t))
  (h1 : t = true → aws P ti hp0 ν ops (o :: l) K (upd tm d (.c (.bool true))) hp) (h2 : t = false → aws P ti hp0 ν ops (o :: l) K (upd tm d (.c (.bool false))) hp) : aws P ti hp0 ν ops (o :: l) K tm hp:=by
 cases t with
 | true => rw [gx _ _ _ ht] at h1; exact h1 rfl
 | false => rw [gx _ _ _ ht] at h2; exact h2 rfl
def awd (P : Program) (ti : TI) (hp0 : Hp) (ν : Nat → Nat) (ops : Array Oper) : List Oper → (List Foot → (Nat → AV) → Hp → Prop) → List Foot → (Nat → AV) → Hp → Prop
 | [], K, acc, tm, hp => K acc tm hp
 | o :: l, K, acc, tm, hp =>
   match o.guard with
   | none => ez P ti o.op (evT tm) hp fun E => FN hp0 ν E.nw (aY hp E.up) fun hp' ns => awd P ti hp0 ν ops l K (acc ++ [⟨rdN o.op (evT tm), E.up.map (·.1), ns⟩]) (cn tm o.dst (E.val ns)) hp'
   | some (j, want) => match (ops[j]?).bind (·.dst) with
     | none => False
     | some d => match tm d with
       | .c (.bool t) => (t = want → ez P ti o.op (evT tm) hp fun E => FN hp0 ν E.nw (aY hp E.up) fun hp' ns => awd P ti hp0 ν ops l K (acc ++ [⟨rdN o.op (evT tm), E.up.map (·.1), ns⟩]) (cn tm o.dst (E.val ns)) hp') ∧
          (t ≠ want → awd P ti hp0 ν ops l K (acc ++ [⟨[],[],[]⟩]) (cn tm o.dst (.k undef)) hp)
       | .k v => v = undef ∧ awd P ti hp0 ν ops l K (acc ++ [⟨[], [], []⟩]) (cn tm o.dst (.k undef)) hp
       | _ => False
theorem s9 (hN : Nm hp0 ν) {K : List Foot → (Nat → AV) → Hp → Prop} : ∀ (l : List Oper) (acc : List Foot) (tm : Nat → AV) (hp : Hp),awd P ti hp0 ν ops l K acc tm hp → d9 P ti ops l K acc tm hp:=by
 intro l
 induction l with
 | nil => intro acc tm hp h; exact h
 | cons o l ih =>
   intro acc tm hp h
   simp only [awd] at h
   simp only [d9]
   split at h
   · rename_i hg;rw [hg]
     exact fF h fun E h=>np hN (iE h fun hp ns h=>ih _ _ _ h)
   · rename_i j want hg;rw [hg]
     split at h
     · exact h.elim
     · rename_i d hd;simp only [hd]
       split at h
       · rename_i t ht;simp only [ht]
         exact ⟨fun e=>fF (h.1 e) fun E h=>np hN (iE h fun hp ns h=>ih _ _ _ h),fun e=>ih _ _ _ (h.2 e)⟩
       · rename_i v ht;simp only [ht]
         exact ⟨h.1,ih _ _ _ h.2⟩
       · exact h.elim
theorem uO {o : Oper} {l : List Oper} {K : List Foot → (Nat → AV) → Hp → Prop} {acc : List Foot} {tm : Nat → AV} {hp : Hp} {j d : Nat} {want : Bool} (hg : o.guard = some (j,want)) (hd : (ops[j]?).bind (·.dst) = some d) (ht : tm d = .c (.bool want))
  (h : awd P ti hp0 ν ops ({ o with guard:=none } :: l) K acc tm hp) : awd P ti hp0 ν ops (o :: l) K acc tm hp:=by
 simp only [awd,hg,hd,ht,forall_const,ne_eq,not_true_eq_false,false_imp_iff,and_true] at h ⊢
 exact h
theorem ta {o : Oper} {l : List Oper} {K : List Foot → (Nat → AV) → Hp → Prop} {acc : List Foot} {tm : Nat → AV} {hp : Hp} {j d : Nat} {want : Bool} (hg : o.guard = some (j,want)) (hd : (ops[j]?).bind (·.dst) = some d) (ht : tm d = .c (.bool (!want)))
  (h : awd P ti hp0 ν ops l K (acc ++ [⟨[],[],[]⟩]) (cn tm o.dst (.k undef)) hp) : awd P ti hp0 ν ops (o :: l) K acc tm hp:=by
 simp only [awd,hg,hd,ht]
 exact ⟨fun e=>absurd e (by cases want <;> simp),fun _=>h⟩
theorem rE {o : Oper} {l : List Oper} {K : List Foot → (Nat → AV) → Hp → Prop} {acc : List Foot} {tm : Nat → AV} {hp : Hp} {j d : Nat} {want t : Bool} (hg : o.guard = some (j,want)) (hd : (ops[j]?).bind (·.dst) = some d) (ht : tm d = .c (.bool t))
  (h1 : t = true → awd P ti hp0 ν ops (o :: l) K acc (upd tm d (.c (.bool true))) hp) (h2 : t = false → awd P ti hp0 ν ops (o :: l) K acc (upd tm d (.c (.bool false))) hp) : awd P ti hp0 ν ops (o :: l) K acc tm hp:=by
 cases t with
 | true => rw [gx _ _ _ ht] at h1; exact h1 rfl
 | false => rw [gx _ _ _ ht] at h2; exact h2 rfl
inductive Fr where
 | sq (y : Code)
 | bk (id : Nat)
 | k (K : (Nat → AV) → Hp → Prop)
def Nx (P : Program) (N : Nat) (hB : Hp) : List Fr → fp → fp
 | [], Q => Q
 | .sq y :: S, Q => rt (Aw P N hB y (Nx P N hB S Q)) (Nx P N hB S Q)
 | .bk id :: S, Q => pI id (Nx P N hB S Q)
 | .k K :: S, Q => rt K (Nx P N hB S Q)
variable {hB : Hp} {S : List Fr} {Q : fp} {tm : Nat → AV} {hp : Hp}
theorem wI {y : Code} (h : Aw P N hB y (Nx P N hB S Q) tm hp) : Nx P N hB (.sq y :: S) Q .normal tm hp:=h
theorem wJ {id : Nat} (h : Nx P N hB S Q .normal tm hp) : Nx P N hB (.bk id :: S) Q .normal tm hp:=h
theorem n_k {K : (Nat → AV) → Hp → Prop} (h : K tm hp) : Nx P N hB (.k K :: S) Q .normal tm hp:=h
theorem uP {y : Code} {i : Nat} (h : Nx P N hB S Q (.exit i) tm hp) : Nx P N hB (.sq y :: S) Q (.exit i) tm hp:=h
theorem wK {K : (Nat → AV) → Hp → Prop} {i : Nat} (h : Nx P N hB S Q (.exit i) tm hp) : Nx P N hB (.k K :: S) Q (.exit i) tm hp:=h
theorem uQ {i : Nat} (h : Nx P N hB S Q .normal tm hp) : Nx P N hB (.bk i :: S) Q (.exit i) tm hp:=by
 show (if i = i then _ else _);rw [if_pos rfl];exact h
theorem aO {i id : Nat} (hne : (i == id) = false) (h : Nx P N hB S Q (.exit i) tm hp) : Nx P N hB (.bk id :: S) Q (.exit i) tm hp:=by
 show (if i = id then _ else _);rw [if_neg (by simpa using hne)];exact h
theorem uR {y : Code} (h : Nx P N hB S Q .ret tm hp) : Nx P N hB (.sq y :: S) Q .ret tm hp:=h
theorem wL {K : (Nat → AV) → Hp → Prop} (h : Nx P N hB S Q .ret tm hp) : Nx P N hB (.k K :: S) Q .ret tm hp:=h
theorem uS {id : Nat} (h : Nx P N hB S Q .ret tm hp) : Nx P N hB (.bk id :: S) Q .ret tm hp:=h
theorem uT {e : Exit} (h : Q e tm hp) : Nx P N hB [] Q e tm hp:=h
theorem uU {x y : Code} (h : Aw P N hB x (Nx P N hB (.sq y :: S) Q) tm hp) : Aw P N hB (.seq x y) (Nx P N hB S Q) tm hp :=
 sQ fun K hK=>h.mono fun e tm hp h=>by cases e <;> first|exact hK _ _ h|exact h
theorem rF {id : Nat} {c : Code} (h : Aw P N hB c (Nx P N hB (.bk id :: S) Q) tm hp) : Aw P N hB (.block id c) (Nx P N hB S Q) tm hp:=pK h
theorem tb (h : Nx P N hB S Q .normal tm hp) : Aw P N hB .skip (Nx P N hB S Q) tm hp:=ru h
theorem rG {l : Nat} (h : Nx P N hB S Q .normal tm hp) : Aw P N hB (.label l) (Nx P N hB S Q) tm hp:=pJ h
theorem tc {id : Nat} (h : Nx P N hB S Q (.exit id) tm hp) : Aw P N hB (.exit id) (Nx P N hB S Q) tm hp:=rv h
theorem uV (h : Nx P N hB S Q .ret tm hp) : Aw P N hB .ret (Nx P N hB S Q) tm hp:=sP h
theorem wM {c : Operand} {x y : Code} (hc : evT tm c = .c (.bool true)) (h : Aw P N hB x (Nx P N hB S Q) tm hp) : Aw P N hB (.cond c x y) (Nx P N hB S Q) tm hp :=
 kB hc (fun _=>h) (fun e=>by cases e)
theorem wN {c : Operand} {x y : Code} (hc : evT tm c = .c (.bool false)) (h : Aw P N hB y (Nx P N hB S Q) tm hp) : Aw P N hB (.cond c x y) (Nx P N hB S Q) tm hp :=
 kB hc (fun e=>by cases e) (fun _=>h)
theorem wO {c : Operand} {x y : Code} {b : Bool} (hc : evT tm c = .c (.bool b)) (h1 : b = true → Aw P N hB x (Nx P N hB S Q) tm hp) (h2 : b = false → Aw P N hB y (Nx P N hB S Q) tm hp) : Aw P N hB (.cond c x y) (Nx P N hB S Q) tm hp :=
 kB hc h1 h2
theorem uW {id : Nat} {l : List Oper} {draw : Bool} (hT : cP P ti) (hN : Nm hp0 ν) (hd : draw = false) (hs : gt N l.toArray = true) (h : aws P ti hp0 ν l.toArray l (Nx P N hB S Q .normal) tm hp) : Aw P N hB (.region id l.toArray draw) (Nx P N hB S Q) tm hp :=
 og hT hd hs (sY hN _ _ _ _ h)
theorem td {id : Nat} {l : List Oper} {draw : Bool} (hT : cP P ti) (hN : Nm hp0 ν) (hm : P.follows .mixedOrders = true) (hd : draw = true) (hs : gt N l.toArray = true) (hst : pF l.toArray = true) (ps : List (Nat × Nat)) (hps : ij l.toArray = ps)
  (h : awd P ti hp0 ν l.toArray l (fun acc tm hp=>mr ps acc ∧ Nx P N hB S Q .normal tm hp) [] tm hp) : Aw P N hB (.region id l.toArray draw) (Nx P N hB S Q) tm hp :=
 ry hT hm hd hs hst ps hps (s9 hN _ _ _ _ h)
theorem cr {X : Type} (st : X → (Nat → AV) × Hp) (Inv : X → Prop) (μ : X → Nat) {c : Code} (h0 : ∃ x,Inv x ∧ Le hB tm hp (st x).1 (st x).2)
  (hr : ∀ x,Inv x → Aw P N hB c (Nx P N hB (.k (fun tm2 hp2=>∃ y,(Inv y ∧ μ y < μ x) ∧ Le hB tm2 hp2 (st y).1 (st y).2) :: S) Q) (st x).1 (st x).2) : Aw P N hB (.loop c) (Nx P N hB S Q) tm hp :=
 rx st Inv μ h0 fun x hx=>(hr x hx).mono fun e tm hp h=>by
  cases e with
  | normal => obtain ⟨y, ⟨h1, h2⟩, h3⟩ := h; exact ⟨y, h1, h2, h3⟩
  | _ => exact h
theorem bA (hT : cP P ti) {f : FuncId} {fn : Func} {c : Code} {args : List AV} {nw : List Ent} {val : List Nat → AV} (hf : P.funcs[f]? = some fn) (hb : fn.body = some c) (hname : (fn.name == "runtime.NumGoroutine") = false) (hN : args.length.ble fn.ntmps = true)
  (h : ∀ hp0 ν,Bs hp0 hp0 ν 0 → Nm hp0 ν → Aw P fn.ntmps hp0 c (Nx P fn.ntmps hp0 [] (oh ti fn hp0 nw val)) (tmL (cg 0 args)) (hpL hp0 ν [])) : ba P f args nw val :=
 oi hT hf hb hname (Nat.le_of_ble_eq_true hN) fun hp0 hX lo w0 φ0 a w hC=>by
  obtain ⟨ν,hN⟩:=uL (hp0:=hp0) (by
   obtain ⟨φ,H,_⟩:=hC;exact H.fin)
  have:=h hp0 ν (Bs.base hX hN) hN
  rw [nl hN,← pT] at this
  exact this lo w0 φ0 a w hC
end
end Go.Proofs.Ytlodllmpndflcaa
namespace Go.Proofs.Ytlodllmpndflcaa
set_option linter.unusedVariables false
set_option linter.unusedSimpArgs false
open Go.RowKit
def sw : List (Nat × Nat) → Nat → Nat
 | [], i => i
 | (a, b) :: l, i => let j := sw l i; if j = a then b else if j = b then a else j
theorem tg : ∀ (s : List (Nat × Nat)) (i j : Nat),sw s i = sw s j → i = j:=by
 intro s
 induction s with
 | nil => intro i j h; exact h
 | cons p s ih =>
   obtain ⟨a,b⟩:=p
   intro i j h
   refine ih _ _ ?_
   simp only [sw] at h
   repeat' split at h
   all_goals omega
noncomputable def rho (ν : Nat → Nat) (s : List (Nat × Nat)) : Nat → Nat:=fun x=>@dite _ (∃ i,x = ν i) (Classical.propDecidable _) (fun h=>ν (sw s (Classical.choose h))) (fun _=>x)
section
variable {hB hp0 : Hp} {ν : Nat → Nat} {s : List (Nat × Nat)} {L L' : List Ent}
theorem dl (hN : Nm hp0 ν) (i : Nat) : rho ν s (ν i) = ν (sw s i):=by
 have h : ∃ j,ν i = ν j:=⟨i,rfl⟩
 unfold rho
 rw [dif_pos h,hN.inj _ _ (Classical.choose_spec h).symm]
theorem fG {x : Nat} (h : ∀ i,x ≠ ν i) : rho ν s x = x:=by
 unfold rho;rw [dif_neg fun ⟨i,e⟩=>h i e]
theorem kD (hN : Nm hp0 ν) (x y : Nat) (h : rho ν s x = rho ν s y) : x = y:=by
 by_cases h1 : ∃ i,x = ν i <;> by_cases h2 : ∃ i,y = ν i
 · obtain ⟨i,rfl⟩:=h1;obtain ⟨j,rfl⟩:=h2
   rw [dl hN,dl hN] at h
   rw [tg s _ _ (hN.inj _ _ h)]
 · obtain ⟨i,rfl⟩:=h1
   rw [dl hN,fG fun j e=>h2 ⟨j,e⟩] at h
   exact absurd ⟨_,h.symm⟩ h2
 · obtain ⟨i,rfl⟩:=h2
   rw [dl hN,fG fun j e=>h1 ⟨j,e⟩] at h
   exact absurd ⟨_,h⟩ h1
 · rwa [fG fun j e=>h1 ⟨j,e⟩,fG fun j e=>h2 ⟨j,e⟩] at h
theorem ow (ν : Nat → Nat) (n : Nat) : ∃ b,∀ i,i < n → ν i < b:=by
 induction n with
 | zero => exact ⟨0, fun i h => by omega⟩
 | succ n ih =>
   obtain ⟨b,hb⟩:=ih
   refine ⟨max b (ν n + 1),fun i h=>?_⟩
   rcases Nat.lt_or_ge i n with h'|h'
   · have:=hb i h';omega
   · have : i = n:=by omega
     subst this;omega
theorem nr (hN : Nm hp0 ν) (h : ir (hpL hp0 ν L)) : ir (hpL hp0 ν L'):=by
 obtain ⟨b,hb⟩:=h
 obtain ⟨b',hb'⟩:=ow ν L'.length
 refine ⟨max b b',fun x hx=>?_⟩
 by_cases h1 : ∃ i,x = ν i
 · obtain ⟨i,rfl⟩:=h1
   rw [aj hN]
   refine List.getElem?_eq_none ?_
   rcases Nat.lt_or_ge i L'.length with h'|h'
   · have:=hb' i h';omega
   · exact h'
 · have:=hb x (by omega)
   rw [dq fun i e=>h1 ⟨i,e⟩] at this ⊢
   exact this
abbrev LV (hp0 : Hp) (ν : Nat → Nat) (s : List (Nat × Nat)) (L L' : List Ent) : AV → AV → Prop:=LeV (hpL hp0 ν L) (hpL hp0 ν L') (rho ν s)
inductive LVs (hp0 : Hp) (ν : Nat → Nat) (s : List (Nat × Nat)) (L L' : List Ent) : List AV → List AV → Prop where
 | nil : LVs hp0 ν s L L' [] []
 | cons {a b : AV} {l m : List AV} (h : LV hp0 ν s L L' a b) (t : LVs hp0 ν s L L' l m) : LVs hp0 ν s L L' (a :: l) (b :: m)
theorem LVs.at {l m : List AV} (h : LVs hp0 ν s L L' l m) : m.length = l.length ∧ ∀ i,i < l.length → LV hp0 ν s L L' (l.getD i .any) (m.getD i .any):=by
 induction h with
 | nil => exact ⟨rfl, fun i h => by simp at h⟩
 | cons h t ih =>
   refine ⟨by simp [ih.1],fun i hi=>?_⟩
   cases i with
   | zero => exact h
   | succ i => exact ih.2 i (by simpa using hi)
theorem th (a : AV) : LV hp0 ν s L L' a .any:=.any a
theorem wP (c : C) : LV hp0 ν s L L' (.c c) (.c c):=.rd (.refl c)
theorem bu {c c' : C} (h : c = c') : LV hp0 ν s L L' (.c c) (.c c'):=by subst h;exact .rd (.refl c)
theorem wQ (v : Value) : LV hp0 ν s L L' (.k v) (.k v):=.k v
theorem uX (wd : Nat) (f : Nat → C) : LV hp0 ν s L L' (.el wd f) (.el wd f):=.el wd f
theorem bv (hN : Nm hp0 ν) (i : Nat) {j : Nat} {e : Ent} (hj : sw s i = j) (h : L'[i]? = some e) (hk : (e.kind == 1 || e.kind == 2) = true) : LV hp0 ν s L L' (.sl (ν j)) (.sl (ν i)):=by
 subst hj
 rw [← dl (s:=s) hN]
 refine .sl (by rw [aj hN];exact h) ?_
 simp at hk;omega
theorem bw (hN : Nm hp0 ν) (i : Nat) {j off : Nat} {e : Ent} (hj : sw s i = j) (h : L'[i]? = some e) (hk : (e.kind == 0 || e.kind == 2) = true) : LV hp0 ν s L L' (.ad (ν j) off) (.ad (ν i) off):=by
 subst hj
 rw [← dl (s:=s) hN]
 refine .ad (by rw [aj hN];exact h) ?_
 simp at hk;omega
theorem bx (hN : Nm hp0 ν) (i : Nat) {j : Nat} {T : TypeId} {nn : Fl} {c c' : C} (hj : sw s i = j) (h : L[j]? = some (.arr T nn c)) (h' : L'[i]? = none ∨ L'[i]? = some .dead) (hr : ef (if nn.nn then .nn c else c) c') : LV hp0 ν s L L' (.sl (ν j)) (.c c'):=by
 refine .fz (by rw [aj hN];exact h) (fun y hy=>?_) hr
 subst hj
 rw [← dl (s:=s) hN] at hy
 have:=kD hN _ _ hy
 subst this
 rw [aj hN];exact h'
theorem bd (hN : Nm hp0 ν) (i : Nat) {T : TypeId} {c : C} (h : L[sw s i]? = none) (h' : L'[i]? = some (.arr T .may c)) : LV hp0 ν s L L' (.c .nul) (.sl (ν i)) :=
 .nul (by rw [dl hN,aj hN];exact h) (by rw [aj hN];exact h')
theorem tj {l m : List AV} (h : LVs hp0 ν s L L' l m) : LV hp0 ν s L L' (.agg l) (.agg m):=.agg h.at.1 h.at.2
theorem uY {f : Fn} {l m : List AV} (h : LVs hp0 ν s L L' l m) : LV hp0 ν s L L' (.fn f l) (.fn f m):=.fn h.at.1 h.at.2
abbrev LE (hp0 : Hp) (ν : Nat → Nat) (s : List (Nat × Nat)) (L L' : List Ent) (i : Nat) : Ent → Prop:=LeE (hpL hp0 ν L) (hpL hp0 ν L') (rho ν s) (ν i)
theorem be (hN : Nm hp0 ν) (i : Nat) {j : Nat} {l : List AV} {cs : List C} (hj : sw s i = j) (h : L[j]? = some (.box l)) (hl : l = cs.map .c) (h' : L'[i]? = none ∨ L'[i]? = some .dead) : LV hp0 ν s L L' (.ad (ν j) 0) (.el cs.length fun j=>cs.getD j .nul):=by
 subst hl
 have:=LeV.fzb (hp:=hpL hp0 ν L) (hp':=hpL hp0 ν L') (ρ:=rho ν s) (ν:=ν j) (l:=cs.map .c) (f:=fun j=>cs.getD j .nul) (by rw [aj hN];exact h) (fun j hj=>⟨cs.getD j .nul,by
  have hj' : j < cs.length:=by simpa using hj
  simp [List.getD_eq_getElem?_getD,hj'],.refl _⟩) (fun y hy=>by
  subst hj
  rw [← dl (s:=s) hN] at hy
  have:=kD hN _ _ hy
  subst this
  rw [aj hN];exact h')
 rwa [List.length_map] at this
theorem rH (i : Nat) : LE hp0 ν s L L' i .dead:=trivial
theorem bf (hN : Nm hp0 ν) {i : Nat} {l l' : List AV} (h : L[sw s i]? = some (.box l)) (hl : LVs hp0 ν s L L' l l') : LE hp0 ν s L L' i (.box l') :=
 ⟨l,by rw [dl hN,aj hN];exact h,hl.at.1,hl.at.2⟩
theorem pU {nn nn' : Fl} (hn : ((!nn'.nn || nn.nn) && (!nn'.hd || nn.hd)) = true) : (nn'.nn = true → nn.nn = true) ∧ (nn'.hd = true → nn.hd = true):=by
 obtain ⟨a,b⟩:=nn;obtain ⟨c,d⟩:=nn'
 cases a <;> cases b <;> cases c <;> cases d <;> simp_all
theorem bg (hN : Nm hp0 ν) {i : Nat} {T : TypeId} {nn nn' : Fl} {c c' : C} (h : L[sw s i]? = some (.arr T nn c)) (hn : ((!nn'.nn || nn.nn) && (!nn'.hd || nn.hd)) = true) (hc : c' = c) : LE hp0 ν s L L' i (.arr T nn' c') :=
 .inl ⟨nn,c,by rw [dl hN,aj hN];exact h,pU hn,hc⟩
theorem bc (hN : Nm hp0 ν) {i : Nat} {T : TypeId} {c : C} {V : View} (h : L[sw s i]? = none) (hn : c.isNN = false) (hv : c.view = some V) (h0 : V.len = 0) : LE hp0 ν s L L' i (.arr T .may c) :=
 .inr ⟨by rw [dl hN,aj hN];exact h,rfl,hn,V,hv,h0⟩
inductive LEs (hp0 : Hp) (ν : Nat → Nat) (s : List (Nat × Nat)) (L L' : List Ent) : Nat → List Ent → Prop where
 | nil (n : Nat) : LEs hp0 ν s L L' n []
 | cons {n : Nat} {e : Ent} {l : List Ent} (h : LE hp0 ν s L L' n e) (t : LEs hp0 ν s L L' (n + 1) l) : LEs hp0 ν s L L' n (e :: l)
theorem LEs.at {n : Nat} {l : List Ent} (h : LEs hp0 ν s L L' n l) : ∀ i e,l[i]? = some e → LE hp0 ν s L L' (n + i) e:=by
 induction h with
 | nil => intro i e h; simp at h
 | @cons n e l h t ih =>
   intro i e' he
   cases i with
   | zero => simp at he; subst he; exact h
   | succ i =>
     have:=ih i e' (by simpa using he)
     rwa [Nat.add_assoc,Nat.add_comm 1 i] at this
inductive LTs (hp0 : Hp) (ν : Nat → Nat) (s : List (Nat × Nat)) (L L' : List Ent) (tm : List (Nat × AV)) : List (Nat × AV) → Prop where
 | nil : LTs hp0 ν s L L' tm []
 | cons {t : Nat} {a b : AV} {l : List (Nat × AV)} (e : tm.lookup t = some a) (h : LV hp0 ν s L L' a b) (r : LTs hp0 ν s L L' tm l) : LTs hp0 ν s L L' tm ((t, b) :: l)
theorem LTs.at {tm l : List (Nat × AV)} (h : LTs hp0 ν s L L' tm l) (t : Nat) : LV hp0 ν s L L' (tmL tm t) (tmL l t):=by
 induction h with
 | nil => exact .any _
 | @cons t' a b l e h r ih =>
   by_cases h' : t = t'
   · subst h';rw [gw];unfold tmL;rw [e];exact h
   · rw [kC h'];exact ih
def leK (s : List (Nat × Nat)) (L' : List Ent) (k : Nat) : Bool:=(List.range k).all fun i=>sw s i == i && i.blt L'.length
theorem bL {k : Nat} (hX : Bs hB hp0 ν k) (hN : Nm hp0 ν) (s : List (Nat × Nat)) {tm l : List (Nat × AV)} (hE : LEs hp0 ν s L L' 0 L') (hT : LTs hp0 ν s L L' tm l) (hk : leK s L' k = true:=by rfl) : Le hB (tmL tm) (hpL hp0 ν L) (tmL l) (hpL hp0 ν L'):=by
 refine pQ (rho ν s) (kD hN) (fun x e h=>?_) (nr hN) (fun x e h=>?_) (fun t=>hT.at t)
 · by_cases h1 : ∃ i,x = ν i
   · obtain ⟨i,rfl⟩:=h1
     have hik : i < k:=by
      rcases Nat.lt_or_ge i k with h'|h'
      · exact h'
      · rw [hX.inn i h'] at h;cases h
     have h2:=List.all_eq_true.1 hk i (List.mem_range.2 hik)
     simp only [Bool.and_eq_true,beq_iff_eq,Nat.blt_eq] at h2
     refine ⟨by rw [dl hN,h2.1],L'[i]'h2.2,by rw [aj hN,List.getElem?_eq_getElem h2.2],fun _ e3=>?_⟩
     have:=hX.own i e h
     omega
   · have h2 : ∀ i,x ≠ ν i:=fun i e=>h1 ⟨i,e⟩
     rw [hX.out x h2] at h
     have h3:=hX.ext x e h
     refine ⟨fG h2,e,by rw [dq h2];exact h,fun h4=>by omega⟩
 by_cases h1 : ∃ i,x = ν i
 · obtain ⟨i,rfl⟩:=h1
   rw [aj hN] at h
   have:=hE.at i e h
   rwa [Nat.zero_add] at this
 · have h2 : ∀ i,x ≠ ν i:=fun i e=>h1 ⟨i,e⟩
   rw [dq h2] at h
   have h3:=hX.ext x e h
   cases e with
   | ext => show hpL hp0 ν L (rho ν s x) = _; rw [fG h2, dq h2]; exact h
   | _ => simp [Ent.kind] at h3
theorem am {hp : Hp} : i7 hp [] []:=⟨rfl,fun i h=>by simp at h⟩
theorem ah {hp : Hp} {a b : AV} {l m : List AV} (h : ArgV hp a b) (t : i7 hp l m) : i7 hp (a :: l) (b :: m):=by
 refine ⟨by simp [t.1],fun i hi=>?_⟩
 cases i with
 | zero => exact h
 | succ i => exact t.2 i (by simpa using hi)
theorem aZ {hp : Hp} (c : C) : ArgV hp (.c c) (.c c):=.rd (.refl c)
theorem au {hp : Hp} (c : C) : ArgV hp (.c (.nn c)) (.c c):=.rd (.unn c)
theorem aw {hp : Hp} {c : C} {V : View} (hv : c.view = some V) (h0 : V.len = 0) (hn : c.isNN = false) : ArgV hp (.c .nul) (.c c):=.rd (.nul hv h0 hn)
theorem aG (hN : Nm hp0 ν) {i : Nat} {T : TypeId} {nn : Fl} {c c' : C} (h : L[i]? = some (.arr T nn c)) (hr : ef (if nn.nn then .nn c else c) c') : ArgV (hpL hp0 ν L) (.sl (ν i)) (.c c') :=
 .fz (by rw [aj hN];exact h) hr
theorem ay {hp : Hp} {l m : List AV} (h : i7 hp l m) : ArgV hp (.agg l) (.agg m):=.agg h.1 h.2
theorem aH {hp : Hp} {f : Fn} {l m : List AV} (h : i7 hp l m) : ArgV hp (.fn f l) (.fn f m):=.fn h.1 h.2
theorem aI {hp : Hp} (wd : Nat) (f : Nat → C) : ArgV hp (.el wd f) (.el wd f):=.el wd f
abbrev elA (cs : List C) : AV:=.el cs.length fun j=>cs.getD j .nul
theorem az (hN : Nm hp0 ν) {i : Nat} {l : List AV} {cs : List C} (h : L[i]? = some (.box l)) (hl : l = cs.map .c) : ArgV (hpL hp0 ν L) (.ad (ν i) 0) (elA cs):=by
 subst hl
 have:=ArgV.box (hp:=hpL hp0 ν L) (x:=ν i) (l:=cs.map .c) (f:=fun j=>cs.getD j .nul) (by rw [aj hN];exact h) fun j hj=>⟨cs.getD j .nul,by
  have hj' : j < cs.length:=by simpa using hj
  simp [List.getD_eq_getElem?_getD,hj'],.refl _⟩
 rwa [List.length_map] at this
theorem ax {hp : Hp} (cs : List C) : ArgV hp (elA cs) (elA cs):=.el _ _
theorem aE {P : Program} {f : FuncId} {args avs : List AV} {nw : List Ent} {val : List Nat → AV} {hp : Hp} {k : Eff → Prop} (hF : ba P f args nw val) (hA : i7 hp avs args) (h1 : nw.all Ent.flat = true) (h2 : ∀ ν,(val ν).flat = true) (h : k ⟨True,nw,[],val⟩) : ∃ E,cM P f avs hp E ∧ k E :=
 ⟨_,oq hF hA h1 h2,h⟩
theorem rI {P : Program} {f : FuncId} {args avs : List AV} {nw : List Ent} {val : List Nat → AV} {hp : Hp} {k : Eff → Prop} (hF : ba P f args nw val) (hA : i7 hp avs args) (hn : bp avs = []) (h1 : nw.all (fun e=>e.kind == 1) = true) (h : k ⟨True,nw,[],val⟩) : ∃ E,cM P f avs hp E ∧ k E :=
 ⟨_,ot hF hA hn (fun e he=>by simpa using List.all_eq_true.1 h1 e he),h⟩
theorem bT {ti : TI} {fn : Func} {tm : Nat → AV} {hp : Hp} {c c' : C} {e : Exit} (he : e = .normal ∨ e = .ret) (hr : bR ti tm hp fn.results.toList = some (.c c')) (hc : c' = c) : oh ti fn hp0 [] (fun _=>.c c) e tm hp:=by
 subst hc
 exact ⟨he,_,hr,mw [] List.nodup_nil rfl (fun i hi=>by simp at hi) fun ν _=>.rd (.refl _)⟩
theorem fX {ti : TI} {fn : Func} {tm : Nat → AV} (hN : Nm hp0 ν) {i : Nat} {T : TypeId} {nn nn' : Fl} {c c' : C} {e : Exit} (he : e = .normal ∨ e = .ret) (hr : bR ti tm (hpL hp0 ν L) fn.results.toList = some (.sl (ν i))) (h : L[i]? = some (.arr T nn c')) (hc : c' = c) (hn : ((!nn'.nn || nn.nn) && (!nn'.hd || nn.hd)) = true) :
  oh ti fn hp0 [.arr T nn' c] (fun ns=>.sl (ns.getD 0 0)) e tm (hpL hp0 ν L):=by
 subst hc
 refine ⟨he,_,hr,mw [ν i] (by simp) rfl (fun j hj=>?_) fun ns _=>.sl 0 (by simp)⟩
 have : j = 0:=by simp at hj;exact hj
 subst this
 exact ⟨T,nn,nn',c',by rw [List.getD_cons_zero,aj hN];exact h,rfl,pU hn⟩
theorem uZ {ti : TI} {fn : Func} {tm : Nat → AV} {hp : Hp} {e : Exit} {nw : List Ent} {val : List Nat → AV} {r : AV} (he : e = .normal ∨ e = .ret) (hr : bR ti tm hp fn.results.toList = some r) (h : sR hp0 r hp nw val) : oh ti fn hp0 nw val e tm hp:=⟨he,_,hr,h⟩
end
theorem gT {α : Sort _} (a b : α) : (if true = true then a else b) = a:=if_pos rfl
theorem fO {α : Sort _} (a b : α) : (if false = true then a else b) = b:=rfl
def CB : AV → Prop → Prop → Prop
 | .c (.bool b), X, Y => (b = true → X) ∧ (b = false → Y)
 | _, _, _ => False
section
variable {P : Program} {ti : TI} {N : Nat} {hB hp0 : Hp} {ν : Nat → Nat} {ops : Array Oper} {S : List Fr} {Q : fp} {tm : Nat → AV} {hp : Hp}
theorem aP {t : Nat} {x y : Code} {L : List (Nat × AV)} (hc : L.lookup t = some (.c (.bool true))) (h : Aw P N hB x (Nx P N hB S Q) (tmL L) hp) : Aw P N hB (.cond (.tmp t) x y) (Nx P N hB S Q) (tmL L) hp:=wM (by show tmL L t = _;unfold tmL;rw [hc]) h
theorem aQ {t : Nat} {x y : Code} {L : List (Nat × AV)} (hc : L.lookup t = some (.c (.bool false))) (h : Aw P N hB y (Nx P N hB S Q) (tmL L) hp) : Aw P N hB (.cond (.tmp t) x y) (Nx P N hB S Q) (tmL L) hp:=wN (by show tmL L t = _;unfold tmL;rw [hc]) h
theorem aC {c : Operand} {x y : Code} (h : ∀ X Y : Prop,(Aw P N hB x (Nx P N hB S Q) tm hp → X) → (Aw P N hB y (Nx P N hB S Q) tm hp → Y) → CB (evT tm c) X Y) : Aw P N hB (.cond c x y) (Nx P N hB S Q) tm hp:=by
 have:=h _ _ id id
 unfold CB at this
 split at this
 · rename_i hc;exact wO hc this.1 this.2
 · exact this.elim
theorem bi {o : Oper} {l : List Oper} {K : (Nat → AV) → Hp → Prop} {L : List (Nat × AV)} (h : aws P ti hp0 ν ops (o :: l) K (tmL L) hp) : aws P ti hp0 ν ops (o :: l) K (tmL L) hp:=h
theorem bB {l : List Oper} {K : List Foot → (Nat → AV) → Hp → Prop} {acc : List Foot} {L : List (Nat × AV)} (h : awd P ti hp0 ν ops l K acc (tmL L) hp) : awd P ti hp0 ν ops l K acc (tmL L) hp:=h
theorem aR {c : Operand} {x y : Code} {S : List Fr} {L : List (Nat × AV)} (h : Aw P N hB (.cond c x y) (Nx P N hB S Q) (tmL L) hp) : Aw P N hB (.cond c x y) (Nx P N hB S Q) (tmL L) hp:=h
theorem u2 {o : Oper} {l : List Oper} {K : (Nat → AV) → Hp → Prop} {L : List (Nat × AV)} {d : Nat} (hg : o.guard = none) (hd : o.dst = some d)
  (h : ∀ K' : AV → Hp → Prop,(∀ a hp,aws P ti hp0 ν ops l K (tmL ((d,a) :: L)) hp → K' a hp) → ez P ti o.op (evT (tmL L)) hp fun E=>FN hp0 ν E.nw (aY hp E.up) fun hp' ns=>K' (E.val ns) hp') : aws P ti hp0 ν ops (o :: l) K (tmL L) hp:=by
 simp only [aws,hg,hd,cn,dr]
 exact h (fun a hp=>aws P ti hp0 ν ops l K (tmL ((d,a) :: L)) hp) fun _ _ h=>h
theorem u3 {o : Oper} {l : List Oper} {K : (Nat → AV) → Hp → Prop} {L : List (Nat × AV)} (hg : o.guard = none) (hd : o.dst = none)
  (h : ∀ K' : Hp → Prop,(∀ hp,aws P ti hp0 ν ops l K (tmL L) hp → K' hp) → ez P ti o.op (evT (tmL L)) hp fun E=>FN hp0 ν E.nw (aY hp E.up) fun hp' ns=>K' hp') : aws P ti hp0 ν ops (o :: l) K (tmL L) hp:=by
 simp only [aws,hg,hd,cn]
 exact h (fun hp=>aws P ti hp0 ν ops l K (tmL L) hp) fun _ h=>h
theorem u4 {o : Oper} {l : List Oper} {K : List Foot → (Nat → AV) → Hp → Prop} {acc : List Foot} {L : List (Nat × AV)} {d : Nat} (hg : o.guard = none) (hd : o.dst = some d)
  (h : ∀ K' : Foot → AV → Hp → Prop,(∀ f a hp,awd P ti hp0 ν ops l K (acc ++ [f]) (tmL ((d,a) :: L)) hp → K' f a hp) → ez P ti o.op (evT (tmL L)) hp fun E=>FN hp0 ν E.nw (aY hp E.up) fun hp' ns=>K' ⟨rdN o.op (evT (tmL L)),E.up.map (·.1),ns⟩ (E.val ns) hp') : awd P ti hp0 ν ops (o :: l) K acc (tmL L) hp:=by
 simp only [awd,hg,hd,cn,dr]
 exact h (fun f a hp=>awd P ti hp0 ν ops l K (acc ++ [f]) (tmL ((d,a) :: L)) hp) fun _ _ _ h=>h
theorem u5 {o : Oper} {l : List Oper} {K : List Foot → (Nat → AV) → Hp → Prop} {acc : List Foot} {L : List (Nat × AV)} (hg : o.guard = none) (hd : o.dst = none)
  (h : ∀ K' : Foot → Hp → Prop,(∀ f hp,awd P ti hp0 ν ops l K (acc ++ [f]) (tmL L) hp → K' f hp) → ez P ti o.op (evT (tmL L)) hp fun E=>FN hp0 ν E.nw (aY hp E.up) fun hp' ns=>K' ⟨rdN o.op (evT (tmL L)),E.up.map (·.1),ns⟩ hp') : awd P ti hp0 ν ops (o :: l) K acc (tmL L) hp:=by
 simp only [awd,hg,hd,cn]
 exact h (fun f hp=>awd P ti hp0 ν ops l K (acc ++ [f]) (tmL L) hp) fun _ _ h=>h
theorem fH {L : List (Nat × AV)} {d : Nat} {a : AV} (h : L.lookup d = some a) : tmL L d = a:=by unfold tmL;rw [h]
theorem bh {o : Oper} {l : List Oper} {K : (Nat → AV) → Hp → Prop} {L : List (Nat × AV)} {j d : Nat} {want : Bool} (hg : o.guard = some (j,want)) (hd : (ops[j]?).bind (·.dst) = some d) (ht : L.lookup d = some (.c (.bool want)))
  (h : aws P ti hp0 ν ops ({ o with guard:=none } :: l) K (tmL L) hp) : aws P ti hp0 ν ops (o :: l) K (tmL L) hp:=uN hg hd (fH ht) h
theorem aM {o : Oper} {l : List Oper} {K : (Nat → AV) → Hp → Prop} {L : List (Nat × AV)} {j d e : Nat} {want : Bool} (hg : o.guard = some (j,want)) (hd : (ops[j]?).bind (·.dst) = some d) (ht : L.lookup d = some (.c (.bool (!want)))) (he : o.dst = some e)
  (h : aws P ti hp0 ν ops l K (tmL ((e,.k undef) :: L)) hp) : aws P ti hp0 ν ops (o :: l) K (tmL L) hp:=sZ hg hd (fH ht) (by rw [he];simp only [cn,dr];exact h)
theorem bK {o : Oper} {l : List Oper} {K : List Foot → (Nat → AV) → Hp → Prop} {acc : List Foot} {L : List (Nat × AV)} {j d : Nat} {want : Bool} (hg : o.guard = some (j,want)) (hd : (ops[j]?).bind (·.dst) = some d) (ht : L.lookup d = some (.c (.bool want)))
  (h : awd P ti hp0 ν ops ({ o with guard:=none } :: l) K acc (tmL L) hp) : awd P ti hp0 ν ops (o :: l) K acc (tmL L) hp:=uO hg hd (fH ht) h
theorem bC {o : Oper} {l : List Oper} {K : List Foot → (Nat → AV) → Hp → Prop} {acc : List Foot} {L : List (Nat × AV)} {j d e : Nat} {want : Bool} (hg : o.guard = some (j,want)) (hd : (ops[j]?).bind (·.dst) = some d) (ht : L.lookup d = some (.c (.bool (!want)))) (he : o.dst = some e)
  (h : awd P ti hp0 ν ops l K (acc ++ [⟨[],[],[]⟩]) (tmL ((e,.k undef) :: L)) hp) : awd P ti hp0 ν ops (o :: l) K acc (tmL L) hp:=ta hg hd (fH ht) (by rw [he];simp only [cn,dr];exact h)
theorem bz {o : Oper} {l : List Oper} {K : (Nat → AV) → Hp → Prop} {L : List (Nat × AV)} {j d e : Nat} {want : Bool} (hg : o.guard = some (j,want)) (hd : (ops[j]?).bind (·.dst) = some d) (ht : L.lookup d = some (.k undef)) (he : o.dst = some e)
  (h : aws P ti hp0 ν ops l K (tmL ((e,.k undef) :: L)) hp) : aws P ti hp0 ν ops (o :: l) K (tmL L) hp:=by
 simp only [aws,hg,hd,fH ht,he,cn,dr]
 exact ⟨trivial,h⟩
theorem bV {o : Oper} {l : List Oper} {K : List Foot → (Nat → AV) → Hp → Prop} {acc : List Foot} {L : List (Nat × AV)} {j d e : Nat} {want : Bool} (hg : o.guard = some (j,want)) (hd : (ops[j]?).bind (·.dst) = some d) (ht : L.lookup d = some (.k undef)) (he : o.dst = some e)
  (h : awd P ti hp0 ν ops l K (acc ++ [⟨[],[],[]⟩]) (tmL ((e,.k undef) :: L)) hp) : awd P ti hp0 ν ops (o :: l) K acc (tmL L) hp:=by
 simp only [awd,hg,hd,fH ht,he,cn,dr]
 exact ⟨trivial,h⟩
theorem aN {o : Oper} {l : List Oper} {K : (Nat → AV) → Hp → Prop} {L : List (Nat × AV)} {j d : Nat} {want : Bool} (hg : o.guard = some (j,want)) (hd : (ops[j]?).bind (·.dst) = some d)
  (h : ∀ X Y : Prop,(aws P ti hp0 ν ops (o :: l) K (tmL ((d,.c (.bool true)) :: L)) hp → X) → (aws P ti hp0 ν ops (o :: l) K (tmL ((d,.c (.bool false)) :: L)) hp → Y) → CB (tmL L d) X Y) : aws P ti hp0 ν ops (o :: l) K (tmL L) hp:=by
 have h':=h _ _ id id
 unfold CB at h'
 split at h'
 · rename_i t ht
   exact rD hg hd ht (fun e=>by rw [dr];exact h'.1 e) (fun e=>by rw [dr];exact h'.2 e)
 · exact h'.elim
theorem bD {o : Oper} {l : List Oper} {K : List Foot → (Nat → AV) → Hp → Prop} {acc : List Foot} {L : List (Nat × AV)} {j d : Nat} {want : Bool} (hg : o.guard = some (j,want)) (hd : (ops[j]?).bind (·.dst) = some d)
  (h : ∀ X Y : Prop,(awd P ti hp0 ν ops (o :: l) K acc (tmL ((d,.c (.bool true)) :: L)) hp → X) → (awd P ti hp0 ν ops (o :: l) K acc (tmL ((d,.c (.bool false)) :: L)) hp → Y) → CB (tmL L d) X Y) : awd P ti hp0 ν ops (o :: l) K acc (tmL L) hp:=by
 have h':=h _ _ id id
 unfold CB at h'
 split at h'
 · rename_i t ht
   exact rE hg hd ht (fun e=>by rw [dr];exact h'.1 e) (fun e=>by rw [dr];exact h'.2 e)
 · exact h'.elim
theorem wR {hp : Hp} {k : Hp → List Nat → Prop} : FN hp0 ν [] hp k = k hp []:=rfl
theorem bm {hp : Hp} {k : Hp → List Nat → Prop} (h : k hp []) : FN hp0 ν [] hp k:=h
theorem aD {L : List Ent} {e : Ent} {es : List Ent} {k : Hp → List Nat → Prop} (h : k (hpL hp0 ν (L ++ e :: es)) (nmL ν L.length (e :: es))) : FN hp0 ν (e :: es) (hpL hp0 ν L) k:=⟨L,rfl,h⟩
end
inductive FI (ν : Nat → Nat) : List Nat → List Nat → Prop where
 | nil : FI ν [] []
 | cons {i : Nat} {l m : List Nat} (h : FI ν l m) : FI ν (ν i :: l) (i :: m)
inductive FtI (ν : Nat → Nat) : List Foot → List Foot → Prop where
 | nil : FtI ν [] []
 | cons {a b c a' b' c' : List Nat} {l m : List Foot} (h1 : FI ν a a') (h2 : FI ν b b') (h3 : FI ν c c') (h : FtI ν l m) : FtI ν (l ++ [⟨a, b, c⟩]) (m ++ [⟨a', b', c'⟩])
def tk (l m : List Nat) : Bool:=l.all fun x=>m.all fun y=>!(x == y)
def u6 (f g : Foot) : Bool:=tk (f.wr ++ f.nw) (g.rd ++ g.wr) && tk (g.wr ++ g.nw) (f.rd ++ f.wr)
def ftB (ops : Array Oper) (l : List Foot) : Bool:=(ij ops).all fun p=>u6 (l.getD p.1 ⟨[],[],[]⟩) (l.getD p.2 ⟨[],[],[]⟩)
theorem FI.map {ν : Nat → Nat} {l m : List Nat} (h : FI ν l m) : l = m.map ν:=by
 induction h with
 | nil => rfl
 | cons h ih => rw [ih]; rfl
theorem FtI.map {ν : Nat → Nat} {l m : List Foot} (h : FtI ν l m) : l = m.map fun f=>⟨f.rd.map ν,f.wr.map ν,f.nw.map ν⟩:=by
 induction h with
 | nil => rfl
 | cons h1 h2 h3 h ih => rw [List.map_append, ← ih, h1.map, h2.map, h3.map]; rfl
theorem pV {hp0 : Hp} {ν : Nat → Nat} (hN : Nm hp0 ν) {l m : List Nat} (h : tk l m = true) : sM (l.map ν) (m.map ν):=by
 intro x hx y hy e
 obtain ⟨i,hi,rfl⟩:=List.mem_map.1 hx
 obtain ⟨j,hj,rfl⟩:=List.mem_map.1 hy
 have h1:=List.all_eq_true.1 (List.all_eq_true.1 h i hi) j hj
 have:=hN.inj _ _ e
 subst this
 simp at h1
theorem pW {hp0 : Hp} {ν : Nat → Nat} (hN : Nm hp0 ν) {ops : Array Oper} {acc ai : List Foot} (h : FtI ν acc ai) (hb : ftB ops ai = true) : mr (ij ops) acc:=by
 intro p hp
 have h1:=List.all_eq_true.1 hb p hp
 simp only [u6,Bool.and_eq_true] at h1
 rw [h.map]
 have e : ∀ i,(ai.map fun f=>(⟨f.rd.map ν,f.wr.map ν,f.nw.map ν⟩ : Foot)).getD i ⟨[],[],[]⟩ = ⟨(ai.getD i ⟨[],[],[]⟩).rd.map ν,(ai.getD i ⟨[],[],[]⟩).wr.map ν,(ai.getD i ⟨[],[],[]⟩).nw.map ν⟩:=fun i=>by
  simp only [List.getD_eq_getElem?_getD,List.getElem?_map]
  cases ai[i]? <;> rfl
 rw [e,e]
 refine ⟨?_,?_⟩ <;> simp only [← List.map_append] <;> exact pV hN (by first|exact h1.1|exact h1.2)
theorem rJ {P : Program} {ti : TI} {N : Nat} {hB hp0 : Hp} {ν : Nat → Nat} {S : List Fr} {Q : fp} {tm : Nat → AV} {hp : Hp} {id : Nat} {l : List Oper} {draw : Bool} (hT : cP P ti) (hN : Nm hp0 ν) (hd : draw = true) (hm : P.follows .mixedOrders = true) (hs : gt N l.toArray = true) (hst : pF l.toArray = true)
  (h : awd P ti hp0 ν l.toArray l (fun acc tm hp=>mr (ij l.toArray) acc ∧ Nx P N hB S Q .normal tm hp) [] tm hp) : Aw P N hB (.region id l.toArray draw) (Nx P N hB S Q) tm hp :=
 td hT hN hm hd hs hst _ rfl h
theorem u7 {P : Program} {ti : TI} {hp0 : Hp} {ν : Nat → Nat} {ops : Array Oper} {X : (Nat → AV) → Hp → Prop} {acc : List Foot} {tm : Nat → AV} {hp : Hp} (hN : Nm hp0 ν) (h : ∃ ai,FtI ν acc ai ∧ ftB ops ai = true) (hx : X tm hp) : awd P ti hp0 ν ops [] (fun acc tm hp=>mr (ij ops) acc ∧ X tm hp) acc tm hp :=
 ⟨let ⟨_,h1,h2⟩:=h;pW hN h1 h2,hx⟩
theorem fY {p q : Prop} [Decidable p] (h : p ↔ q) : decide p = tf q:=by
 by_cases hp : p
 · rw [aA (h.1 hp)];simp [hp]
 · rw [ao fun hq=>hp (h.2 hq)];simp [hp]
theorem ak {p : Prop} (h : p) : p:=h
theorem wS {p : Prop} : (tf p = true) = p:=propext tS
theorem wT {p : Prop} : (tf p = false) = ¬ p:=propext tT
theorem rK (tm : Nat → AV) (t : Nat) : evT tm (.tmp t) = tm t:=rfl
theorem rL (tm : Nat → AV) (k : IntKind) (n : Int) : evT tm (.const (.int k n)) = .c (.int k n):=rfl
theorem pX (tm : Nat → AV) (b : Bool) : evT tm (.const (.bool b)) = .c (.bool b):=rfl
theorem rM (tm : Nat → AV) : evT tm (.const (.slice none 0 0)) = .c .nul:=rfl
theorem pY (tm : Nat → AV) (f : FuncId) : evT tm (.func f) = .fn (.func f) []:=rfl
theorem pZ {n : Int} (h : -9223372036854775808 ≤ n ∧ n ≤ 9223372036854775807) : IntKind.i64.wrap n = n:=by rw [IntKind.wrap_i64];omega
attribute [go_sem] List.range_zero List.range_succ and_self ez dT opW rK rL pX rM pY nq aY wR nmL rm unW ig fT fU fV eO l4 rn ro cK kk km dw nc ne lf toC fa rj C.row rk gk jr nb fS iq ff jB b7 slC dP gM C.view AV.one AV.cells TSh.isStruct ret iT CB pZ List.size_toArray List.map_cons List.map_nil List.getElem?_cons_zero List.getElem?_cons_succ List.length_cons List.length_nil List.set_cons_zero List.set_cons_succ List.take_succ_cons List.take_zero List.take_nil List.drop_zero List.drop_succ_cons List.cons_append List.nil_append List.getD_cons_zero List.getD_cons_succ List.all_cons List.all_nil rdN Op.operands Call.operands Array.toList_append Array.toList_map Option.toArray List.append_toArray Op.still bp AV.names List.append_nil Option.map_some Option.map_none Option.bind_some wS wT Bool.and_eq_true Bool.or_eq_true Bool.and_eq_false_imp Bool.or_eq_false_iff Fl.yes Fl.may dG pc mW dj List.length_set List.length_append List.length_replicate List.not_mem_nil not_false_eq_true Int.toNat_natCast true_and and_true forall_const false_imp_iff true_imp_iff implies_true eq_self Bool.false_eq_true Bool.true_eq_false Bool.and_self Bool.not_true Bool.not_false Nat.zero_add decide_eq_true_eq decide_eq_false_iff_not Bool.not_eq_true' Bool.not_eq_false' beq_iff_eq bne_iff_ne ne_eq gt_iff_lt ge_iff_le ti2 ti3 ti4 ti5 ti6 ti7 ti8 vP vQ vR vS vT vU vV vW vX vY vZ v6 v7 v8 wa wb wc we wg wh wi wj wk wm wn ws wt wu t8 ub uc ud uf
end Go.Proofs.Ytlodllmpndflcaa
namespace Go.Proofs.Ytlodllmpndflcaa
set_option linter.unusedVariables false
set_option linter.unusedSimpArgs false
open Go.RowKit
theorem p8 (n : Nat) (f : Nat → Int) : (tab n fun i=>if i < 0 then f i else 0) = List.replicate n 0:=by
 refine (iK (by simp) fun k hk=>?_).symm
 simp [gi,List.getD_eq_getElem?_getD,List.getElem?_replicate,hk]
theorem p9 {n k : Nat} {f d : Nat → Int} {v : Int} (hk : k < n) (hv : v = f k) : (tab n fun i=>if i < k + 1 then f i else d i) = (tab n fun i=>if i < k then f i else d i).set k v:=by
 rw [hv];exact (iM hk).symm
theorem i8 {n k : Nat} {f d : Nat → Int} (hk : n ≤ k) : (tab n fun i=>if i < k then f i else d i) = tab n f:=cX fun j hj=>if_pos (by omega)
end Go.Proofs.Ytlodllmpndflcaa
namespace Go.Proofs.Ytlodllmpndflcaa
set_option linter.unusedVariables false
set_option linter.unusedSimpArgs false
open Go.RowKit
theorem il {O : Nat → Prop} {w : World} {c : C} {V : View} {sa : Option Addr} {n cp : Nat} {vs : Nat → Value} (hO : ∀ b,¬ O b) (hv : c.view = some V) (hl : V.len = n) (hwd : V.wd = 1) (hn : c.isNN = false) (h : Cells w sa n cp vs) (hr : ∀ i,i < n → Rd O w (V.at' i 0) (vs i)) : Rd O w c (.slice sa n cp):=by
 subst hl
 refine .sl (vs:=fun i _=>vs i) hv (fun e=>by rw [hn] at e;cases e) h.cap h.max h.nil (fun ad e hpos=>?_) (fun ad e i hi j hj=>?_) (fun i hi j hj=>?_)
 · obtain ⟨b,o,e',hb,_⟩:=h.get hpos
   rw [e] at e';injection e' with e';subst e'
   exact ⟨rfl,hO _,hb⟩
 · have : j = 0:=by omega
   subst this
   rw [hwd,Nat.mul_one,Nat.add_zero]
   exact h.cell ad e i hi
 · have : j = 0:=by omega
   subst this
   exact hr i hi
theorem u9 {O : Nat → Prop} {w : World} {v : Value} {xs : List Int} (hO : ∀ b,¬ O b) (h : IsI w v xs) : Rd O w (.I xs) v:=by
 obtain ⟨sa,n,c,rfl,hl,h⟩:=h
 exact il hO rfl hl rfl rfl h fun i hi=>.int _ _
theorem vc {O : Nat → Prop} {w : World} {v : Value} {xss : List (List Int)} (hO : ∀ b,¬ O b) (h : d5 w v xss) : Rd O w (.R xss) v:=by
 obtain ⟨sa,n,c,rfl,hl,A,L,C,h,hk⟩:=h
 exact il hO rfl hl rfl rfl h fun i hi=>u9 hO (hk i hi).is
theorem lE {O : Nat → Prop} {w : World} {c : C} {V : View} {v : Value} (h : Rd O w c v) (hv : c.view = some V) (hwd : V.wd = 1) : ∃ sa n cp vs,v = .slice sa n cp ∧ n = V.len ∧ Cells w sa n cp vs ∧ ∀ i,i < V.len → Rd O w (V.at' i 0) (vs i):=by
 cases h with
 | sl hv' hn hc hm h0 hs cell rec =>
   rw [hv] at hv';injection hv' with hv';subst hv'
   refine ⟨_,_,_,fun i=>_,rfl,rfl,⟨hc,hm,h0,fun ad e hpos=>(hs ad e hpos).1,fun ad e k hk=>?_⟩,fun i hi=>rec i hi 0 (by omega)⟩
   have:=cell ad e k hk 0 (by omega)
   rw [hwd,Nat.mul_one,Nat.add_zero] at this
   exact this
 | _ => simp [C.view] at hv
theorem i9 {O : Nat → Prop} {w : World} {v : Value} {xs : List Int} (h : Rd O w (.I xs) v) : IsI w v xs:=by
 obtain ⟨sa,n,cp,vs,rfl,rfl,hc,hr⟩:=lE h rfl rfl
 refine ⟨sa,_,cp,rfl,rfl,hc.cap,hc.max,hc.nil,hc.spot,fun ad e k hk=>?_⟩
 have h1:=hr k hk
 rw [hc.cell ad e k hk]
 revert h1
 generalize vs k = u
 intro h1
 cases h1 with
 | sl hv' => simp [C.view] at hv'
 | _ => rfl
theorem so {O : Nat → Prop} {w : World} {v : Value} {xss : List (List Int)} (h : Rd O w (.R xss) v) : d5 w v xss:=by
 obtain ⟨sa,n,cp,vs,rfl,rfl,hc,hr⟩:=lE h rfl rfl
 have key : ∀ i,i < xss.length → ∃ a l c,vs i = .slice a l c ∧ cy w a l c (gr xss i):=fun i hi=>by
  obtain ⟨a,l,c,e,h⟩:=i9 (hr i hi)
  exact ⟨a,l,c,e,h⟩
 let A : Nat → Option Addr:=fun i=>match vs i with | .slice a _ _=>a | _=>none
 let L : Nat → Nat:=fun i=>match vs i with | .slice _ l _=>l | _=>0
 let K : Nat → Nat:=fun i=>match vs i with | .slice _ _ c=>c | _=>0
 have eA : ∀ i,i < xss.length → vs i = .slice (A i) (L i) (K i) ∧ cy w (A i) (L i) (K i) (gr xss i):=fun i hi=>by
  obtain ⟨a,l,c,e,h⟩:=key i hi
  have e1 : A i = a:=by show (match vs i with | .slice a _ _=>a | _=>none) = a;rw [e]
  have e2 : L i = l:=by show (match vs i with | .slice _ l _=>l | _=>0) = l;rw [e]
  have e3 : K i = c:=by show (match vs i with | .slice _ _ c=>c | _=>0) = c;rw [e]
  rw [e1,e2,e3];exact ⟨e,h⟩
 refine ⟨sa,_,cp,rfl,rfl,A,L,K,⟨hc.cap,hc.max,hc.nil,hc.spot,fun ad e k hk=>?_⟩,fun k hk=>(eA k hk).2⟩
 rw [hc.cell ad e k hk,(eA k hk).1]
abbrev arA (a : Ar) : AV:=.agg [.c (.I a.own),.c (.R a.nxt)]
abbrev paA (g : Pa) : AV:=.agg [.c (.I g.ar.own),.c (.R g.ar.nxt),.c (.I g.prio)]
inductive AVs (φ : Nat → Loc) (hp : Hp) (w : World) : List AV → List Value → Prop where
 | nil : AVs φ hp w [] []
 | cons {a : AV} {v : Value} {l : List AV} {m : List Value} (h : AVC φ hp w a v) (t : AVs φ hp w l m) : AVs φ hp w (a :: l) (v :: m)
theorem AVs.at {φ : Nat → Loc} {hp : Hp} {w : World} {l : List AV} {m : List Value} (h : AVs φ hp w l m) : m.length = l.length ∧ ∀ i,i < l.length → AVC φ hp w (l.getD i .any) (m.getD i undef):=by
 induction h with
 | nil => exact ⟨rfl, fun i h => by simp at h⟩
 | cons h t ih =>
   refine ⟨by simp [ih.1],fun i hi=>?_⟩
   cases i with
   | zero => exact h
   | succ i => exact ih.2 i (by simpa using hi)
theorem AVs.of {φ : Nat → Loc} {hp : Hp} {w : World} : ∀ {l : List AV} {m : List Value},m.length = l.length → (∀ i,i < l.length → AVC φ hp w (l.getD i .any) (m.getD i undef)) → AVs φ hp w l m
 | [], [], _, _ => .nil
 | a :: l, v :: m, hl, h => .cons (h 0 (by simp)) (AVs.of (by simpa using hl) fun i hi => h (i + 1) (by simpa using hi))
theorem iF {φ : Nat → Loc} {hp : Hp} {w : World} {l : List AV} {v : Value} (h : AVC φ hp w (.agg l) v) : ∃ vs : List Value,v = .agg vs.toArray ∧ AVs φ hp w l vs:=by
 obtain ⟨vs,rfl,h1,h2⟩:=eQ h
 exact ⟨vs,rfl,.of h1 h2⟩
theorem gy {φ : Nat → Loc} {hp : Hp} {w : World} {l : List AV} {vs : List Value} (h : AVs φ hp w l vs) : AVC φ hp w (.agg l) (.agg vs.toArray):=.agg h.at.1 h.at.2
theorem wU {φ : Nat → Loc} {hp : Hp} {w : World} {v : Value} {a : Ar} (h : AVC φ hp w (arA a) v) : IsA w v a:=by
 obtain ⟨vs,e,h'⟩:=iF h
 subst e
 match vs,h' with
 | [x, y], .cons h1 (.cons h2 .nil) => exact ⟨x, y, rfl, i9 (cJ h1), so (cJ h2)⟩
theorem vd {φ : Nat → Loc} {hp : Hp} {w : World} {v : Value} {g : Pa} (h : AVC φ hp w (paA g) v) : IsP w v g:=by
 obtain ⟨vs,e,h'⟩:=iF h
 subst e
 match vs,h' with
 | [x, y, z], .cons h1 (.cons h2 (.cons h3 .nil)) => exact ⟨x, y, z, rfl, i9 (cJ h1), so (cJ h2), i9 (cJ h3)⟩
abbrev h00 : Hp:=fun _=>none
abbrev φ00 : Nat → Loc:=fun _=>.nil
theorem sr (b : Nat) : ¬ Own φ00 h00 b:=fun ⟨_,⟨_,h,_⟩,_⟩=>by cases h
theorem ox (w : World) : HC φ00 h00 w.heap.size w w :=
 ⟨Below.refl _ _,Nat.le_refl _,⟨0,fun _ _=>rfl⟩,(fun _ _ h=>by cases h),(fun _ _ _ _ ⟨_,h,_⟩=>by cases h),(fun _ _ ⟨_,h,_⟩=>by cases h)⟩
theorem iu {w : World} {v : Value} {xs : List Int} (h : IsI w v xs) : AVC φ00 h00 w (.c (.I xs)) v:=.c (u9 sr h)
theorem ss {w : World} {v : Value} {xs : List (List Int)} (h : d5 w v xs) : AVC φ00 h00 w (.c (.R xs)) v:=.c (vc sr h)
theorem mz {w : World} (k : IntKind) (n : Int) : AVC φ00 h00 w (.c (.int k n)) (.int k n):=.c (.int k n)
theorem vf {w : World} {v : Value} {a : Ar} (h : IsA w v a) : AVC φ00 h00 w (arA a) v:=by
 obtain ⟨x,y,rfl,h1,h2⟩:=h
 exact gy (vs:=[x,y]) (.cons (iu h1) (.cons (ss h2) .nil))
theorem oy {w : World} {v : Value} {g : Pa} (h : IsP w v g) : AVC φ00 h00 w (paA g) v:=by
 obtain ⟨x,y,z,rfl,h1,h2,h3⟩:=h
 exact gy (vs:=[x,y,z]) (.cons (iu h1) (.cons (ss h2) (.cons (iu h3) .nil)))
section
variable {P : Program} {f : FuncId} {args : List AV}
theorem ec {fn : Func} (hf : P.funcs[f]? = some fn) (hb : fn.body.isNone = false) (hname : (fn.name == "runtime.NumGoroutine") = false) {c : C} {u : Value} (hu : ∀ (O : Nat → Prop) w, Rd O w c u)
  (h : ∀ φ hp w (vs : List Value),AVs φ hp w args vs → Calls P f vs.toArray w fun e w'=>e = .returned u ∧ Below w.heap.size w w') : ba P f args [] fun _=>.c c:=by
 refine ⟨⟨fn,hf,hb,hname⟩,fun φ0 hp0 w vs hX H hl hv=>(h φ0 hp0 w vs (.of hl hv)).mono fun e w' ⟨he,hbw⟩=>⟨u,he,?_⟩⟩
 intro ν hl hn hf
 have : ν = []:=List.eq_nil_of_length_eq_zero hl
 subst this
 have hE : Evo φ0 hp0 w φ0 (bQ (aY hp0 []) [] []) w':=⟨fun ν e he=>⟨e,he,.inr ⟨rfl,rfl⟩⟩,fun b hb ho=>⟨hbw.block b hb,ho⟩,hbw.size,fun b hb _=>hbw.block b hb⟩
 refine ⟨φ0,⟨hbw,hbw.size,H.fin,fun ν e he=>?_,H.sep,fun ν b hm hb'=>H.lo ν b hm hb'⟩,hE,.c (hu _ _)⟩
 exact (H.ent ν e he).evo hE fun hk b hb'=>hbw.block b (H.lt ⟨e,he,hk⟩ hb')
theorem nt {c : C} {w : World} {vs : List Value} (hF : ba P f args [] fun _=>.c c) (hv : AVs φ00 h00 w args vs) : Calls P f vs.toArray w fun e w'=>∃ v,e = .returned v ∧ (∃ O : Nat → Prop,Rd O w' c v) ∧ Below w.heap.size w w':=by
 refine (hF.2 φ00 h00 w vs (fun _ _ h=>by cases h) (ox w) hv.at.1 hv.at.2).mono fun e w' ⟨v,he,ho⟩=>⟨v,he,?_⟩
 obtain ⟨φ',H,_,ha⟩:=ho [] rfl List.nodup_nil (fun _ h=>by cases h)
 exact ⟨⟨_,cJ ha⟩,H.fr⟩
theorem kE {b : Bool} {w : World} {vs : List Value} (hF : ba P f args [] fun _=>.c (.bool b)) (hv : AVs φ00 h00 w args vs) : Calls P f vs.toArray w fun e w'=>e = .returned (.bool b) ∧ Below w.heap.size w w' :=
 (nt hF hv).mono fun e w' ⟨v,he,⟨O,h⟩,hb⟩=>by
  cases h with
  | sl hv' => simp [C.view] at hv'
  | _ => exact ⟨he, hb⟩
theorem rN {k : IntKind} {n : Int} {w : World} {vs : List Value} (hF : ba P f args [] fun _=>.c (.int k n)) (hv : AVs φ00 h00 w args vs) : Calls P f vs.toArray w fun e w'=>e = .returned (.int k n) ∧ Below w.heap.size w w' :=
 (nt hF hv).mono fun e w' ⟨v,he,⟨O,h⟩,hb⟩=>by
  cases h with
  | sl hv' => simp [C.view] at hv'
  | _ => exact ⟨he, hb⟩
end
theorem nu {φ : Nat → Loc} {hp : Hp} {w : World} {loc : Loc} {T : TypeId} {nn : Fl} {c : C} {V : View} {vs : List Value} (h : e9 φ hp w loc (.arr T nn c)) (hh : nn.hd = true) (hv : c.view = some V) (hwd : V.wd = 1) {lo : Nat} (hlo : ∀ b,loc.blk = some b → lo ≤ b) (hl : vs.length = V.len) (hr : ∀ i v,i < V.len → Rd (Own φ hp) w (V.at' i 0) v → v = vs.getD i undef) : bH T lo w.heap.size w loc.val vs:=by
 obtain ⟨V',hv',_,⟨h0,h1,_⟩|⟨g,o,cp,cur,h0,h1,h2,h3,h4,h5,h6⟩⟩:=h
 · rw [hv] at hv';injection hv' with hv';subst hv'
   exact .inl ⟨by rw [h0];rfl,List.eq_nil_of_length_eq_zero (by omega)⟩
 · rw [hv] at hv';injection hv' with hv';subst hv'
   obtain ⟨rfl,h7⟩:=h5 hh
   rw [hwd,Nat.mul_one] at h7
   have hb : loc.blk = some g:=by rw [h0];rfl
   refine .inr ⟨g,cp,cur,by rw [h0,hl];rfl,hlo g hb,(Array.getElem?_eq_some_iff.1 h1).1,h1,by omega,(by unfold maxLen;omega),h7.symm,?_⟩
   refine List.ext_getElem (by simp;omega) fun i i1 i2=>?_
   obtain ⟨v,k1,k2⟩:=h6 i (by omega) 0 (by omega)
   have:=hr i v (by omega) k2
   rw [hwd,Nat.mul_one,Nat.add_zero,Nat.zero_add] at k1
   rw [List.getElem_take]
   obtain ⟨k3,k4⟩:=Array.getElem?_eq_some_iff.1 k1
   rw [Array.getElem_toList,k4,this,List.getD_eq_getElem?_getD,List.getElem?_eq_getElem i2]
   rfl
end Go.Proofs.Ytlodllmpndflcaa
namespace Go.Proofs.Ytlodllmpndflcaa
set_option linter.unusedVariables false
set_option linter.unusedSimpArgs false
open Go.RowKit
def vg (p : Prop) : Prop:=p
section
variable {P : Program} {ti : TI} {N : Nat} {hB hp0 : Hp} {ν : Nat → Nat} {S : List Fr} {Q : fp}
theorem fZ (id : Nat) {l : Array Oper} {d : Bool} {tm : Nat → AV} {hp : Hp} (h : vg (Aw P N hB (.region id l d) (Nx P N hB S Q) tm hp)) : Aw P N hB (.region id l d) (Nx P N hB S Q) tm hp:=h
theorem mA {c : Code} {tm tm' : Nat → AV} {hp hp' : Hp} {R : fp} (hl : Le hB tm hp tm' hp') (h : Aw P N hB c R tm' hp') : vg (Aw P N hB c R tm hp):=fun lo w0 φ0 a w hC=>h lo w0 φ0 a w (hl lo w0 φ0 N a w hC)
variable {L : List Ent} {ns νs : List Nat}
abbrev SV (hp0 : Hp) (ν : Nat → Nat) (L : List Ent) (ns νs : List Nat) : AV → AV → Prop:=SubV (hpL hp0 ν L) ns νs
inductive SVs (hp0 : Hp) (ν : Nat → Nat) (L : List Ent) (ns νs : List Nat) : List AV → List AV → Prop where
 | nil : SVs hp0 ν L ns νs [] []
 | cons {a b : AV} {l m : List AV} (h : SV hp0 ν L ns νs a b) (t : SVs hp0 ν L ns νs l m) : SVs hp0 ν L ns νs (a :: l) (b :: m)
theorem SVs.at {l m : List AV} (h : SVs hp0 ν L ns νs l m) : m.length = l.length ∧ ∀ i,i < l.length → SV hp0 ν L ns νs (l.getD i .any) (m.getD i .any):=by
 induction h with
 | nil => exact ⟨rfl, fun i h => by simp at h⟩
 | cons h t ih =>
   refine ⟨by simp [ih.1],fun i hi=>?_⟩
   cases i with
   | zero => exact h
   | succ i => exact ih.2 i (by simpa using hi)
theorem oz (c : C) : SV hp0 ν L ns νs (.c c) (.c c):=.rd (.refl c)
theorem jT {c c' : C} (h : c = c') : SV hp0 ν L ns νs (.c c) (.c c'):=by subst h;exact .rd (.refl c)
theorem gU (c : C) : SV hp0 ν L ns νs (.c (.nn c)) (.c c):=.rd (.unn c)
theorem gV {c : C} {V : View} (hv : c.view = some V) (h0 : V.len = 0) (hn : c.isNN = false) : SV hp0 ν L ns νs (.c .nul) (.c c):=.rd (.nul hv h0 hn)
theorem jU (hN : Nm hp0 ν) {i : Nat} {T : TypeId} {nn : Fl} {c c' : C} (h : L[i]? = some (.arr T nn c)) (h' : ¬ ν i ∈ ns) (hc : c = c') : SV hp0 ν L ns νs (.sl (ν i)) (.c c'):=by
 subst hc
 refine .fz (by rw [aj hN];exact h) h' ?_
 split
 · exact .unn c
 · exact .refl c
theorem jV {x y : Nat} (i : Nat) (hi : i < ns.length) (hx : x = ns.getD i 0) (hy : y = νs.getD i 0) : SV hp0 ν L ns νs (.sl x) (.sl y):=by subst hx;subst hy;exact .sl i hi
theorem gX {l m : List AV} (h : SVs hp0 ν L ns νs l m) : SV hp0 ν L ns νs (.agg l) (.agg m):=.agg h.at.1 h.at.2
theorem gY {l m : List AV} (h : SVs hp0 ν L ns νs l m) : SV hp0 ν L ns νs (.tup l) (.tup m):=.tup h.at.1 h.at.2
inductive Gone (ν : Nat → Nat) (L : List Ent) : List Nat → List Ent → Prop where
 | nil : Gone ν L [] []
 | cons {i : Nat} {T : TypeId} {nn nn' : Fl} {c c' : C} {ns : List Nat} {nw : List Ent} (h : L[i]? = some (.arr T nn c)) (hn : ((!nn'.nn || nn.nn) && (!nn'.hd || nn.hd)) = true) (hc : c = c') (t : Gone ν L ns nw) : Gone ν L (i :: ns) (.arr T nn' c' :: nw)
theorem Gone.at (hN : Nm hp0 ν) {is : List Nat} {nw : List Ent} (h : Gone ν L is nw) : is.length = nw.length ∧ ∀ i,i < (is.map ν).length → ∃ T nn nn' c,hpL hp0 ν L ((is.map ν).getD i 0) = some (.arr T nn c) ∧ nw.getD i .dead = .arr T nn' c ∧ ((nn'.nn = true → nn.nn = true) ∧ (nn'.hd = true → nn.hd = true)):=by
 induction h with
 | nil => exact ⟨rfl, fun i hi => by simp at hi⟩
 | cons h hn hc t ih =>
   subst hc
   refine ⟨by simp [ih.1],fun i hi=>?_⟩
   cases i with
   | zero => exact ⟨_, _, _, _, by rw [List.map_cons, List.getD_cons_zero, aj hN]; exact h, rfl, pU hn⟩
   | succ i => exact ih.2 i (by simpa using hi)
theorem qa (hN : Nm hp0 ν) {is : List Nat} (h : is.Nodup) : (is.map ν).Nodup:=by
 induction is with
 | nil => exact List.nodup_nil
 | cons i is ih =>
   obtain ⟨h1,h2⟩:=List.nodup_cons.1 h
   rw [List.map_cons,List.nodup_cons]
   refine ⟨fun hm=>?_,ih h2⟩
   obtain ⟨j,k1,k2⟩:=List.mem_map.1 hm
   have:=hN.inj _ _ k2
   subst this;exact h1 k1
theorem jW {fn : Func} (hN : Nm hp0 ν) (is : List Nat) (his : is.Nodup) {tm : Nat → AV} {e : Exit} {nw : List Ent} {val : List Nat → AV} {r : AV} (he : e = .normal ∨ e = .ret) (hr : bR ti tm (hpL hp0 ν L) fn.results.toList = some r) (hg : Gone ν L is nw) (hv : ∀ νs : List Nat,νs.length = is.length → SV hp0 ν L (is.map ν) νs r (val νs)) :
  oh ti fn hp0 nw val e tm (hpL hp0 ν L) :=
 uZ he hr (mw (is.map ν) (qa hN his) (by rw [List.length_map];exact (hg.at hN).1) (hg.at hN).2 fun νs h=>hv νs (by rw [h,List.length_map]))
theorem gZ (hN : Nm hp0 ν) {i : Nat} {is : List Nat} (h : ¬ i ∈ is) : ¬ ν i ∈ is.map ν:=fun hm=>by
 obtain ⟨j,h1,h2⟩:=List.mem_map.1 hm
 have:=hN.inj _ _ h2
 subst this;exact h h1
end
section
variable {hp0 : Hp} {ν : Nat → Nat} {L : List Ent} {ti : TI} {fn : Func} {l : List (Nat × AV)} {t T i off : Nat} {cells : List AV} {r a : AV}
theorem eC {hp : Hp} (h1 : fn.results.toList = [.tmp t]) (h2 : l.lookup t = some a) : bR ti (tmL l) hp fn.results.toList = some a:=by
 have e : tmL l t = a:=by unfold tmL;rw [h2]
 rw [h1]
 simp only [bR,bU,bX,e]
theorem dM (hN : Nm hp0 ν) (h1 : fn.results.toList = [.cell t T]) (h2 : l.lookup t = some (.ad (ν i) off)) (h3 : L[i]? = some (.box cells)) (h4 : bY ti T cells off = some r) : bR ti (tmL l) (hpL hp0 ν L) fn.results.toList = some r:=by
 have e : tmL l t = .ad (ν i) off:=by unfold tmL;rw [h2]
 rw [h1]
 simp only [bR,bU,bX,e,aj hN,h3,h4]
theorem dm {s : Nat} (hN : Nm hp0 ν) (h1 : fn.results.toList = [.cell t T,.tmp s]) (h2 : l.lookup t = some (.ad (ν i) off)) (h3 : L[i]? = some (.box cells)) (h4 : bY ti T cells off = some r) (h5 : l.lookup s = some a) : bR ti (tmL l) (hpL hp0 ν L) fn.results.toList = some (.tup [r,a]):=by
 have e : tmL l t = .ad (ν i) off:=by unfold tmL;rw [h2]
 have e' : tmL l s = a:=by unfold tmL;rw [h5]
 rw [h1]
 simp only [bR,bU,bX,e,aj hN,h3,h4,e']
theorem aS {i j : Nat} (hN : Nm hp0 ν) (h : i ≠ j) : ¬ ν i ∈ [ν j]:=fun hm=>h (hN.inj _ _ (List.mem_singleton.1 hm))
end
end Go.Proofs.Ytlodllmpndflcaa
namespace Go.Proofs.Ytlodllmpndflcaa
set_option linter.unusedVariables false
set_option linter.unusedSimpArgs false
open Go.RowKit
def upL (ν : Nat → Nat) (n : Nat) : List Ent → List (Nat × Ent)
 | [] => []
 | e :: l => (ν n, e) :: upL ν (n + 1) l
theorem qb {hp0 : Hp} {ν : Nat → Nat} (hN : Nm hp0 ν) : ∀ (es A B : List Ent),B.length = es.length → aY (hpL hp0 ν (A ++ B)) (upL ν A.length es) = hpL hp0 ν (A ++ es):=by
 intro es
 induction es with
 | nil => intro A B h; rw [List.eq_nil_of_length_eq_zero h]; rfl
 | cons e es ih =>
   intro A B h
   cases B with
   | nil => simp at h
   | cons b B =>
     show aY (upd (hpL hp0 ν (A ++ b :: B)) (ν A.length) (some e)) (upL ν (A.length + 1) es) = _
     rw [an hN (by simp)]
     have e1 : (A ++ b :: B).set A.length e = (A ++ [e]) ++ B:=by simp
     have e2 : A.length + 1 = (A ++ [e]).length:=by simp
     rw [e1,e2,ih (A ++ [e]) B (by simpa using h)]
     simp
def AV.plain : AV → Bool
 | .c _ | .k _ | .el _ _ => true
 | _ => false
def Ent.plain : Ent → Bool
 | .box l => l.all AV.plain
 | .arr _ _ _ => true
 | _ => false
def ja (P : Program) (f : FuncId) (args : (Nat → Nat) → List AV) (pre post nw : List Ent) (val : List Nat → AV) : Prop :=
 (∃ fn, P.funcs[f]? = some fn ∧ fn.body.isNone = false ∧ (fn.name == "runtime.NumGoroutine") = false) ∧
 ∀ φ0 hp0 ν lo w (vs : List Value),Ext hp0 → Nm hp0 ν → HC φ0 (hpL hp0 ν pre) lo w w → vs.length = (args ν).length → (∀ i,i < (args ν).length → AVC φ0 (hpL hp0 ν pre) w ((args ν).getD i .any) (vs.getD i undef)) →
  Calls P f vs.toArray w fun e w'=>∃ v,e = .returned v ∧ Out φ0 (hpL hp0 ν pre) lo w w (upL ν 0 post) nw val v w'
section
variable {P : Program} {ti : TI}
inductive ArgM (hp : Hp) (xs : List Nat) : AV → AV → Prop where
 | v {a a' : AV} (h : ArgV hp a a') (hn : ∀ y, y ∈ a.names → ¬ y ∈ xs) : ArgM hp xs a a'
 | sl {x : Nat} (h : x ∈ xs) : ArgM hp xs (.sl x) (.sl x)
 | ad {x off : Nat} (h : x ∈ xs) : ArgM hp xs (.ad x off) (.ad x off)
 | agg {l l' : List AV} (hl : l'.length = l.length) (h : ∀ i, i < l.length → ArgM hp xs (l.getD i .any) (l'.getD i .any)) : ArgM hp xs (.agg l) (.agg l')
def oA (hp : Hp) (x : Nat) : Ent → Prop
 | .box l => hp x = some (.box l)
 | .arr T nn c => ∃ nn', hp x = some (.arr T nn' c) ∧ ((nn.nn = true → nn'.nn = true) ∧ (nn.hd = true → nn'.hd = true))
 | _ => False
theorem oA.kind {hp : Hp} {x : Nat} {e : Ent} (h : oA hp x e) : ∃ e',hp x = some e' ∧ e'.kind = e.kind ∧ e.kind < 2:=by
 cases e with
 | box l => exact ⟨_, h, rfl, by simp [Ent.kind]⟩
 | arr T nn c => obtain ⟨nn', h, _⟩ := h; exact ⟨_, h, rfl, by simp [Ent.kind]⟩
 | dead => exact h.elim
 | ext => exact h.elim
def Ent.flatB : Ent → Bool
 | .box l => jR l
 | .arr _ _ c => c.flat
 | _ => false
def jb : List Ent → List Ent → Bool
 | [], [] => true
 | a :: l, b :: m => a.kind == b.kind && jb l m
 | _, _ => false
theorem qc : ∀ {l m : List Ent},jb l m = true → l.length = m.length ∧ ∀ j,j < l.length → (l.getD j .dead).kind = (m.getD j .dead).kind:=by
 intro l
 induction l with
 | nil => intro m h; cases m with | nil => exact ⟨rfl, fun j h => by simp at h⟩ | cons => simp [jb] at h
 | cons a l ih =>
   intro m h
   cases m with
   | nil => simp [jb] at h
   | cons b m =>
     simp only [jb,Bool.and_eq_true,beq_iff_eq] at h
     obtain ⟨h1,h2⟩:=ih h.2
     refine ⟨by simp [h1],fun j hj=>?_⟩
     cases j with
     | zero => exact h.1
     | succ j => exact h2 j (by simpa using hj)
theorem g6 {φ φ' : Nat → Loc} {hp hp' : Hp} {w : World} {loc : Loc} {e : Ent} (hp1 : e.plain = true) (h : e9 φ hp w loc e) (hm : (∀ b,Own φ' hp' b → Own φ hp b) ∨ e.flatB = true) : e9 φ' hp' w loc e:=by
 have rd : ∀ {c v},(∀ b,Own φ' hp' b → Own φ hp b) → Rd (Own φ hp) w c v → Rd (Own φ' hp') w c v:=fun hm h=>h.mono (fun b _ hb=>⟨rfl,fun h=>hb (hm b h)⟩) (Nat.le_refl _)
 cases e with
 | box l =>
   obtain ⟨g,n,cp,wd,cur,T,h1,h2,h3,h4⟩:=h
   refine ⟨g,n,cp,wd,cur,T,h1,h2,h3,fun i hi=>?_⟩
   have k1:=List.all_eq_true.1 hp1 _ (List.getElem_mem hi)
   rw [← bI (d:=AV.any) hi] at k1
   have k2:=h4 i hi
   have k3 : (∀ b,Own φ' hp' b → Own φ hp b) ∨ (l.getD i .any).flat = true:=hm.imp id fun h=>eB h hi
   revert k1 k2 k3
   generalize l.getD i .any = a
   generalize cur.getD i undef = u
   intro k1 k2 k3
   cases a <;> first|(simp [AV.plain] at k1;done)|skip
   · refine .c ?_
     rcases k3 with k3|k3
     · exact rd k3 (cJ k2)
     · exact gu k3 (cJ k2)
   · cases k2;exact .k _
   · rcases k3 with k3|k3
     · cases k2 with|el hc hr hO hb=>exact .el hc (fun j hj=>rd k3 (hr j hj)) (fun h=>hO (k3 _ h)) hb
     · simp [AV.flat] at k3
 | arr T nn c =>
   obtain ⟨V,hv,hnn,k|⟨g,o,cp,cur,k1,k2,k3,k4,k5,kh,k6⟩⟩:=h
   · exact ⟨V,hv,hnn,.inl k⟩
   · refine ⟨V,hv,hnn,.inr ⟨g,o,cp,cur,k1,k2,k3,k4,k5,kh,fun i hi j hj=>?_⟩⟩
     obtain ⟨u,m1,m2⟩:=k6 i hi j hj
     refine ⟨u,m1,?_⟩
     rcases hm with hm|hm
     · exact rd hm m2
     · exact gu (nk hm hv i j) m2
 | dead => simp [Ent.plain] at hp1
 | ext => simp [Ent.plain] at hp1
theorem mB {φ : Nat → Loc} {hp hp1 hp' : Hp} {lo : Nat} {w0 w : World} {S xs : List Nat} (H : HC φ hp1 lo w0 w) (own : ∀ b,Own φ hp' b → ∃ y,cf hp1 y ∧ (φ y).blk = some b ∧ (y ∈ xs ∨ ¬ y ∈ S)) (hx : ∀ x,x ∈ xs → ∃ e e',hp1 x = some e ∧ hp' x = some e' ∧ e'.kind = e.kind ∧ e.kind < 2)
  {a a' : AV} {v : Value} (h : ArgM hp xs a a') (hs : ∀ ν,ν ∈ a.names → hp1 ν = hp ν ∧ ν ∈ S) (hv : AVC φ hp1 w a v) : AVC φ hp' w a' v:=by
 induction h generalizing v with
 | @v a a' h hn =>
   refine i6 (S:=S.filter fun y=>!decide (y ∈ xs)) H (fun b hb=>?_) h (fun y hy=>⟨(hs y hy).1,?_⟩) hv
   · obtain ⟨y,h1,h2,h3⟩:=own b hb
     refine ⟨y,h1,h2,fun h4=>?_⟩
     rw [List.mem_filter] at h4
     rcases h3 with h3|h3
     · simp [h3] at h4
     · exact h3 h4.1
   · rw [List.mem_filter]
     exact ⟨(hs y hy).2,by simp [hn y hy]⟩
 | @sl x h =>
   obtain ⟨e,e',h1,h2,h3,h4⟩:=hx x h
   cases hv with
   | sl k1 k2 => rw [h1] at k1; injection k1 with k1; subst k1; exact .sl h2 (by omega)
   | sld k1 k2 => rw [h1] at k1; injection k1 with k1; subst k1; omega
 | @ad x off h =>
   obtain ⟨e,e',h1,h2,h3,h4⟩:=hx x h
   cases hv with
   | ad k1 k2 k3 => rw [h1] at k1; injection k1 with k1; subst k1; exact .ad h2 (by omega) k3
   | add k1 k2 => rw [h1] at k1; injection k1 with k1; subst k1; omega
 | agg hl _ ih =>
   obtain ⟨vs,rfl,h1,h2⟩:=eQ hv
   refine .agg (by omega) fun i hi=>ih i (by omega) (fun ν hν=>hs ν ?_) (h2 i (by omega))
   simp only [AV.names]
   have hi':=Nat.lt_of_lt_of_le hi (Nat.le_of_eq hl)
   rw [bI hi'] at hν
   exact cL (List.getElem_mem hi') hν
set_option maxHeartbeats 1000000 in

theorem tn {f : FuncId} {args : (Nat → Nat) → List AV} {pre post nw : List Ent} {val : List Nat → AV} (hF : ja P f args pre post nw val) {hp : Hp} {avs : List AV} (xs : List Nat) (hxl : xs.length = pre.length) (hxn : xs.Nodup) (hsub : ∀ x,x ∈ xs → x ∈ bp avs)
  (hpre : ∀ j,j < pre.length → oA hp (xs.getD j 0) (pre.getD j .dead)) (hpp : pre.all Ent.plain = true) (hpl : post.all Ent.plain = true) (hsk : jb pre post = true) (hk : nw.all Ent.plain = true)
  (hA : ∀ ν' : Nat → Nat,(∀ j,j < pre.length → ν' j = xs.getD j 0) → (args ν').length = avs.length ∧ ∀ i,i < avs.length → ArgM hp xs (avs.getD i .any) ((args ν').getD i .any))
  (hcase : (∀ y,y ∈ bp avs → y ∈ xs) ∨ (nw.all Ent.flat = true ∧ post.all Ent.flatB = true ∧ ∀ ν,(val ν).flat = true)) : cM P f avs hp ⟨True,nw,xs.zip post,val⟩:=by
 obtain ⟨hcall,hspec⟩:=hF
 obtain ⟨hlen,hkd⟩:=qc hsk
 refine ⟨hcall,fun φ hp1 lo w0 w vs hsame H hl hv=>?_⟩
 obtain ⟨B,hB⟩:=H.fin
 have hx0 : ∀ x,x ∈ xs → ∃ j,j < pre.length ∧ xs.idxOf x = j ∧ xs.getD j 0 = x:=fun x hx=>by
  obtain ⟨h1,h2⟩:=dy hx
  exact ⟨_,by omega,rfl,h2⟩
 have hxm : ∀ j,j < pre.length → xs.getD j 0 ∈ xs:=fun j hj=>by rw [bI (by omega)];exact List.getElem_mem (by omega)
 have hpre1 : ∀ j,j < pre.length → oA hp1 (xs.getD j 0) (pre.getD j .dead):=fun j hj=>by
  have h1:=hpre j hj
  have h2:=hsame _ (hsub _ (hxm j hj))
  revert h1
  cases pre.getD j .dead <;> simp only [oA,h2] <;> exact id
 have hxs : ∀ x,x ∈ xs → ∃ e,hp1 x = some e ∧ e.kind < 2:=fun x hx=>by
  obtain ⟨j,h1,_,h3⟩:=hx0 x hx
  obtain ⟨e',k1,k2,k3⟩:=(hpre1 j h1).kind
  rw [h3] at k1
  exact ⟨e',k1,by omega⟩
 have hxB : ∀ x,x ∈ xs → x < B:=fun x hx=>by
  obtain ⟨e,h1,_⟩:=hxs x hx
  rcases Nat.lt_or_ge x B with h|h
  · exact h
  · rw [hB x h] at h1;cases h1
 have hex : ∀ x,x ∈ xs → cm hp1 (bp avs) x = none:=fun x hx=>by unfold cm;rw [if_pos (hsub x hx)]
 let ν' : Nat → Nat:=fun i=>if i < pre.length then xs.getD i 0 else B + i
 have v1 : ∀ i,i < pre.length → ν' i = xs.getD i 0:=fun i h=>if_pos h
 have v2 : ∀ i,¬ i < pre.length → ν' i = B + i:=fun i h=>if_neg h
 have hN : Nm (cm hp1 (bp avs)) ν':=by
  refine ⟨fun i j e=>?_,fun i=>?_⟩
  · by_cases hi : i < pre.length <;> by_cases hj : j < pre.length
    · rw [v1 i hi,v1 j hj,bI (by omega),bI (by omega)] at e
      exact (List.getElem_inj (h₀:=by omega) (h₁:=by omega) hxn).1 e
    · rw [v1 i hi,v2 j hj] at e
      have:=hxB _ (hxm i hi);omega
    · rw [v2 i hi,v1 j hj] at e
      have:=hxB _ (hxm j hj);omega
    · rw [v2 i hi,v2 j hj] at e;omega
  · by_cases hi : i < pre.length
    · rw [v1 i hi];exact hex _ (hxm i hi)
    · rw [v2 i hi];unfold cm;rw [hB _ (by omega)];split <;> rfl
 have c1 : ∀ (L : List Ent) j,j < pre.length → hpL (cm hp1 (bp avs)) ν' L (xs.getD j 0) = L[j]?:=fun L j hj=>by rw [← v1 j hj,aj hN]
 have c2 : ∀ (L : List Ent),L.length = pre.length → ∀ y,¬ y ∈ xs → hpL (cm hp1 (bp avs)) ν' L y = cm hp1 (bp avs) y:=fun L hL y hy=>by
  by_cases h : ∃ i,y = ν' i
  · obtain ⟨i,rfl⟩:=h
    have hi : ¬ i < pre.length:=fun hi=>hy (by rw [v1 i hi];exact hxm i hi)
    rw [aj hN,hN.out,List.getElem?_eq_none (by omega)]
  · exact dq fun i e=>h ⟨i,e⟩
 have c3 : ∀ x,x ∈ xs → ∃ j,j < pre.length ∧ xs.getD j 0 = x ∧ (∀ L : List Ent,hpL (cm hp1 (bp avs)) ν' L x = L[j]?):=fun x hx=>by
  obtain ⟨j,h1,_,h3⟩:=hx0 x hx
  exact ⟨j,h1,h3,fun L=>by rw [← h3];exact c1 L j h1⟩
 have pget : ∀ j,j < pre.length → pre[j]? = some (pre.getD j .dead):=fun j hj=>by rw [List.getElem?_eq_getElem hj,bI hj]
 have qget : ∀ j,j < pre.length → post[j]? = some (post.getD j .dead):=fun j hj=>by rw [List.getElem?_eq_getElem (by omega),bI (by omega)]
 have ckind : ∀ j,j < pre.length → (pre.getD j .dead).kind < 2:=fun j hj=>let ⟨_,_,_,h⟩:=(hpre1 j hj).kind;h
 have live : ∀ y,cf (hpL (cm hp1 (bp avs)) ν' pre) y → cf hp1 y ∧ (y ∈ xs ∨ ¬ y ∈ bp avs):=fun y hy=>by
  by_cases h : y ∈ xs
  · obtain ⟨e,k1,k2⟩:=hxs y h
    exact ⟨⟨e,k1,by omega⟩,.inl h⟩
  · obtain ⟨e,h1,h2⟩:=hy
    rw [c2 pre rfl y h] at h1
    obtain ⟨_,k1,k2⟩:=cO h1
    exact ⟨k2,.inr k1⟩
 have own : ∀ b,Own φ (hpL (cm hp1 (bp avs)) ν' pre) b → ∃ y,cf hp1 y ∧ (φ y).blk = some b ∧ (y ∈ xs ∨ ¬ y ∈ bp avs):=fun b ⟨y,h1,h2⟩=>let ⟨k1,k2⟩:=live y h1;⟨y,k1,h2,k2⟩
 have own' : ∀ b,Own φ (hpL (cm hp1 (bp avs)) ν' pre) b → Own φ hp1 b:=fun b h=>let ⟨y,k1,k2,_⟩:=own b h;⟨y,k1,k2⟩
 have Hc : HC φ (hpL (cm hp1 (bp avs)) ν' pre) lo w w:=by
  refine ⟨Below.refl _ _,H.l0,nr (L:=[]) hN ?_,fun y e hy=>?_,fun y y' b hne h1 h2 h3=>H.sep y y' b hne (live y h1).1 (live y' h2).1 h3,fun y b h1 h2=>?_⟩
  · rw [nl hN]
    exact ⟨B,fun x hx=>by unfold cm;rw [hB x hx];split <;> rfl⟩
  · by_cases h : y ∈ xs
    · obtain ⟨j,h1,h2,h3⟩:=c3 y h
      rw [h3,pget j h1] at hy
      injection hy with hy
      have hP:=hpre1 j h1
      rw [h2,hy] at hP
      have hpl1:=List.all_eq_true.1 hpp e (by rw [← hy,bI h1];exact List.getElem_mem h1)
      refine g6 (φ:=φ) (hp:=hp1) hpl1 ?_ (.inl own')
      cases e with
      | box l => exact H.ent y _ hP
      | arr T nn c =>
        obtain ⟨nn',k1,k2⟩:=hP
        obtain ⟨V,hv',hnn,⟨m1,m2,m3⟩|⟨g,o,cp,cur,m1,m2,m3,m4,m5,mh,m6⟩⟩:=H.ent y _ k1
        · exact ⟨V,hv',hnn,.inl ⟨m1,m2,by cases hq : nn.nn with|false=>rfl|true=>rw [k2.1 hq] at m3;cases m3⟩⟩
        · exact ⟨V,hv',hnn,.inr ⟨g,o,cp,cur,m1,m2,m3,m4,m5,fun e=>mh (k2.2 e),m6⟩⟩
      | dead => exact hP.elim
      | ext => exact hP.elim
    · rw [c2 pre rfl y h] at hy
      obtain ⟨rfl,h1,h2⟩:=cO hy
      exact fun b hb=>H.lt h2 hb
  · obtain ⟨e,k1,k2⟩:=h1
    by_cases h : y ∈ xs
    · obtain ⟨e',q1,q2⟩:=hxs y h
      exact H.lo y b ⟨e',q1,q2⟩ h2
    · rw [c2 pre rfl y h] at k1
      obtain ⟨rfl,_⟩:=cO k1
      simp [Ent.kind] at k2
 obtain ⟨ha1,ha2⟩:=hA ν' v1
 have hargs : ∀ i,i < (args ν').length → AVC φ (hpL (cm hp1 (bp avs)) ν' pre) w ((args ν').getD i .any) (vs.getD i undef):=by
  intro i hi
  have hi' : i < avs.length:=by omega
  refine mB H own (fun x hx=>?_) (ha2 i hi') (fun y hy=>?_) (hv i hi')
  · obtain ⟨j,h1,h2,h3⟩:=c3 x hx
    obtain ⟨e',k1,k2,k3⟩:=(hpre1 j h1).kind
    rw [h2] at k1
    exact ⟨e',_,k1,by rw [h3,pget j h1],k2.symm,by omega⟩
  · have : y ∈ bp avs:=by rw [bI hi'] at hy;exact cL (List.getElem_mem hi') hy
    exact ⟨hsame y this,this⟩
 refine (hspec φ _ ν' lo w vs (lD _ _) hN Hc (by omega) hargs).mono fun e w' ⟨v,he,hO⟩=>⟨v,he,fun νs n1 n2 n3=>?_⟩
 have n1 : νs.length = nw.length:=n1
 have n4 : ∀ x,x ∈ νs → ¬ x ∈ xs:=fun x hx h=>by obtain ⟨e,k1,_⟩:=hxs x h;rw [n3 x hx] at k1;cases k1
 obtain ⟨φ1,K,EV,hr⟩:=hO νs n1 n2 (fun x hx=>by
  rw [c2 pre rfl x (n4 x hx)];unfold cm;rw [n3 x hx];split <;> rfl)
 rw [show aY (hpL (cm hp1 (bp avs)) ν' pre) (upL ν' 0 post) = hpL (cm hp1 (bp avs)) ν' post from qb hN post [] pre hlen] at K EV hr
 generalize hF' : bQ (hpL (cm hp1 (bp avs)) ν' post) νs nw = hpF at K EV hr
 have F1 : ∀ y,y ∈ νs → hpF y = some (nw.getD (νs.idxOf y) .dead) ∧ νs.idxOf y < nw.length:=fun y hy=>by
  obtain ⟨h1,h2⟩:=dy hy
  have:=dx (hp:=hpL (cm hp1 (bp avs)) ν' post) n1 n2 h1
  rw [h2,hF'] at this
  exact ⟨this,by omega⟩
 have F2 : ∀ y,¬ y ∈ νs → hpF y = hpL (cm hp1 (bp avs)) ν' post y:=fun y hy=>by rw [← hF'];exact c9 hy
 have hupx : aY hp1 (xs.zip post) = bQ hp1 xs post:=(dL hp1 xs post).symm
 have F3 : ∀ x,x ∈ xs → ∃ j,j < pre.length ∧ xs.getD j 0 = x ∧ hpF x = some (post.getD j .dead) ∧ bQ (aY hp1 (xs.zip post)) νs nw x = some (post.getD j .dead):=fun x hx=>by
  obtain ⟨j,h1,h2,h3⟩:=c3 x hx
  have hn : ¬ x ∈ νs:=fun h=>n4 x h hx
  refine ⟨j,h1,h2,by rw [F2 x hn,h3,qget j h1],?_⟩
  rw [c9 hn,hupx,← h2]
  exact dx (by omega) hxn (by omega)
 have F4 : ∀ y,¬ y ∈ νs → ¬ y ∈ xs → hpF y = cm hp1 (bp avs) y ∧ bQ (aY hp1 (xs.zip post)) νs nw y = hp1 y:=fun y h1 h2 =>
  ⟨by rw [F2 y h1];exact c2 post (by omega) y h2,by rw [c9 h1,hupx,c9 h2]⟩
 have F5 : ∀ y,y ∈ νs → bQ (aY hp1 (xs.zip post)) νs nw y = hpF y:=fun y hy=>by
  obtain ⟨h1,h2⟩:=dy hy
  have:=dx (hp:=aY hp1 (xs.zip post)) n1 n2 h1
  rw [h2] at this
  rw [this,(F1 y hy).1]
 have pkind : ∀ j,j < pre.length → (post.getD j .dead).kind < 2:=fun j hj=>by rw [← hkd j hj];exact ckind j hj
 have locx : ∀ x,x ∈ xs → φ1 x = φ x:=fun x hx=>by
  obtain ⟨j,h1,h2,h3,_⟩:=F3 x hx
  have h4:=c1 pre j h1
  rw [h2,pget j h1] at h4
  obtain ⟨e',k1,⟨k2,_⟩|⟨_,k3⟩⟩:=EV.nm x _ h4
  · rw [h3] at k1;injection k1 with k1;subst k1
    have:=pkind j h1;omega
  · exact k3
 have loce : ∀ y,¬ y ∈ bp avs → cf hp1 y → hpF y = some .ext ∧ φ1 y = φ y ∧ hpL (cm hp1 (bp avs)) ν' pre y = some .ext:=fun y h1 h2=>by
  have hyx : ¬ y ∈ xs:=fun h=>h1 (hsub y h)
  have h3 : hpL (cm hp1 (bp avs)) ν' pre y = some .ext:=by rw [c2 pre rfl y hyx];exact nj h1 h2
  obtain ⟨e',k1,⟨_,k2⟩|⟨k2,k3⟩⟩:=EV.nm y _ h3
  · exact absurd rfl k2
  · exact ⟨by rw [k1,pr k2],k3,h3⟩
 have hpF_live : ∀ x,x ∈ xs → cf hpF x:=fun x hx=>by
  obtain ⟨j,h1,h2,h3,_⟩:=F3 x hx
  exact ⟨_,h3,by have:=pkind j h1;omega⟩
 have keep : ∀ y b,¬ y ∈ xs → cf hp1 y → (φ y).blk = some b → w'.heap[b]? = w.heap[b]?:=fun y b h1 h2 h3=>by
  have hb:=H.lt h2 h3
  by_cases hs : y ∈ bp avs
  · refine (EV.bl b hb fun ho=>?_).1
    obtain ⟨z,k1,k2,k3⟩:=own b ho
    refine H.sep y z b (fun e=>?_) h2 k1 h3 k2
    subst e
    exact k3.elim h1 fun h=>h hs
  · exact EV.ex b hb ⟨y,(loce y hs h2).2.2,h3⟩
 have newblk : ∀ y,y ∈ νs → cf hpF y → ∀ b,(φ1 y).blk = some b → w.heap.size ≤ b:=fun y hy hL b hb=>by
  refine Nat.le_of_not_lt fun hlt=>?_
  by_cases ho : Own φ (hpL (cm hp1 (bp avs)) ν' pre) b
  · obtain ⟨z,k1,k2,k3⟩:=own b ho
    by_cases hz : z ∈ xs
    · exact K.sep y z b (fun e=>n4 y hy (by rw [e];exact hz)) hL (hpF_live z hz) hb (by rw [locx z hz];exact k2)
    · have hzs:=k3.resolve_left hz
      obtain ⟨q1,q2,_⟩:=loce z hzs k1
      refine K.sep y z b (fun e=>?_) hL ⟨_,q1,by simp [Ent.kind]⟩ hb (by rw [q2];exact k2)
      obtain ⟨e0,m1,_⟩:=k1
      rw [← e,n3 y hy] at m1;cases m1
  · exact (EV.bl b hlt ho).2 ⟨y,hL,hb⟩
 let φ2 : Nat → Loc:=fun y=>if y ∈ νs then φ1 y else φ y
 have p1 : ∀ y,y ∈ νs → φ2 y = φ1 y:=fun y h=>if_pos h
 have p2 : ∀ y,¬ y ∈ νs → φ2 y = φ y:=fun y h=>if_neg h
 have lv : ∀ y,¬ y ∈ νs → cf (bQ (aY hp1 (xs.zip post)) νs nw) y → cf hp1 y:=fun y h1 h2=>by
  by_cases h : y ∈ xs
  · obtain ⟨e,k1,k2⟩:=hxs y h
    exact ⟨e,k1,by omega⟩
  · obtain ⟨e,k1,k2⟩:=h2
    rw [(F4 y h1 h).2] at k1
    exact ⟨e,k1,k2⟩
 have lvn : ∀ y,y ∈ νs → cf (bQ (aY hp1 (xs.zip post)) νs nw) y → cf hpF y:=fun y hy ⟨e,h1,h2⟩=>⟨e,by rw [← F5 y hy];exact h1,h2⟩
 have hcases : (∀ b,Own φ2 (bQ (aY hp1 (xs.zip post)) νs nw) b → Own φ1 hpF b) ∨ (nw.all Ent.flat = true ∧ post.all Ent.flatB = true ∧ (val νs).flat = true):=by
  rcases hcase with hc|⟨h1,h2,h3⟩
  · refine .inl ?_
    rintro b ⟨y,y1,y2⟩
    by_cases hy : y ∈ νs
    · rw [p1 y hy] at y2
      exact ⟨y,lvn y hy y1,y2⟩
    · rw [p2 y hy] at y2
      by_cases hx : y ∈ xs
      · exact ⟨y,hpF_live y hx,by rw [locx y hx];exact y2⟩
      · obtain ⟨q1,q2,_⟩:=loce y (fun h=>hx (hc y h)) (lv y hy y1)
        exact ⟨y,⟨_,q1,by simp [Ent.kind]⟩,by rw [q2];exact y2⟩
  · exact .inr ⟨h1,h2,h3 νs⟩
 have E : Evo φ hp1 w φ2 (bQ (aY hp1 (xs.zip post)) νs nw) w':=by
  refine ⟨fun y e hy=>?_,fun b hb ho=>⟨(EV.bl b hb fun h=>ho (own' b h)).1,fun ⟨y,y1,y2⟩=>?_⟩,EV.sz,fun b hb ⟨y,y1,y2⟩=>?_⟩
  · have hyν : ¬ y ∈ νs:=fun h=>by rw [n3 y h] at hy;cases hy
    rw [p2 y hyν]
    by_cases hx : y ∈ xs
    · obtain ⟨j,h1,h2,h3,h4⟩:=F3 y hx
      refine ⟨_,h4,.inr ⟨?_,rfl⟩⟩
      obtain ⟨e',k1,k2,k3⟩:=(hpre1 j h1).kind
      rw [h2,hy] at k1;injection k1 with k1;subst k1
      rw [← hkd j h1];exact k2.symm
    · exact ⟨e,by rw [(F4 y hyν hx).2];exact hy,.inr ⟨rfl,rfl⟩⟩
  · by_cases hy : y ∈ νs
    · rw [p1 y hy] at y2
      have:=newblk y hy (lvn y hy y1) b y2
      omega
    · rw [p2 y hy] at y2
      exact ho ⟨y,lv y hy y1,y2⟩
  · refine keep y b (fun h=>?_) ⟨_,y1,by simp [Ent.kind]⟩ y2
    obtain ⟨e,k1,k2⟩:=hxs y h
    rw [y1] at k1;injection k1 with k1;subst k1;simp [Ent.kind] at k2
 show ∃ φ',HC φ' (bQ (aY hp1 (xs.zip post)) νs nw) lo w0 w' ∧ Evo φ hp1 w φ' (bQ (aY hp1 (xs.zip post)) νs nw) w' ∧ AVC φ' (bQ (aY hp1 (xs.zip post)) νs nw) w' (val νs) v
 generalize hG : bQ (aY hp1 (xs.zip post)) νs nw = hpG at *
 refine ⟨φ2,⟨H.fr.trans K.fr,Nat.le_trans H.l0 EV.sz,?_,fun y e hy=>?_,fun y y' b hne h1 h2 h3 h4=>?_,fun y b h1 h2=>?_⟩,E,?_⟩
 · rw [← hG,dL];exact eW (eW H.fin _) _
 · by_cases hyν : y ∈ νs
   · rw [F5 y hyν] at hy
     rw [p1 y hyν]
     have h1:=K.ent y e hy
     obtain ⟨h2,h3⟩:=F1 y hyν
     rw [h2] at hy;injection hy with hy
     have hm : e ∈ nw:=by rw [← hy,bI h3];exact List.getElem_mem h3
     refine g6 (List.all_eq_true.1 hk e hm) h1 (hcases.imp id fun h=>?_)
     have:=List.all_eq_true.1 h.1 e hm
     cases e <;> first|exact this|(simp [Ent.flat] at this)
   · rw [p2 y hyν]
     by_cases hx : y ∈ xs
     · obtain ⟨j,h1,h2,h3,h4⟩:=F3 y hx
       rw [h4] at hy;injection hy with hy
       have h5:=K.ent y _ h3
       rw [locx y hx,hy] at h5
       have hm : e ∈ post:=by rw [← hy,bI (by omega)];exact List.getElem_mem (by omega)
       exact g6 (List.all_eq_true.1 hpl e hm) h5 (hcases.imp id fun h=>List.all_eq_true.1 h.2.1 e hm)
     · rw [(F4 y hyν hx).2] at hy
       exact (H.ent y e hy).evo E fun hk b hb=>keep y b hx ⟨e,hy,hk⟩ hb
 · by_cases hy : y ∈ νs <;> by_cases hy' : y' ∈ νs
   · rw [p1 y hy] at h3;rw [p1 y' hy'] at h4
     exact K.sep y y' b hne (lvn y hy h1) (lvn y' hy' h2) h3 h4
   · rw [p1 y hy] at h3;rw [p2 y' hy'] at h4
     have:=newblk y hy (lvn y hy h1) b h3
     have:=H.lt (lv y' hy' h2) h4
     omega
   · rw [p2 y hy] at h3;rw [p1 y' hy'] at h4
     have:=newblk y' hy' (lvn y' hy' h2) b h4
     have:=H.lt (lv y hy h1) h3
     omega
   · rw [p2 y hy] at h3;rw [p2 y' hy'] at h4
     exact H.sep y y' b hne (lv y hy h1) (lv y' hy' h2) h3 h4
 · by_cases hy : y ∈ νs
   · rw [p1 y hy] at h2
     have:=newblk y hy (lvn y hy h1.live) b h2
     have:=H.l0
     omega
   · rw [p2 y hy] at h2
     by_cases hx : y ∈ xs
     · obtain ⟨e,k1,k2⟩:=hxs y hx
       exact H.lo y b ⟨e,k1,k2⟩ h2
     · obtain ⟨e,k1,k2⟩:=h1
       rw [(F4 y hy hx).2] at k1
       exact H.lo y b ⟨e,k1,k2⟩ h2
 · have eqs : ∀ y e,hpF y = some e → e.kind ≠ 3 → hpG y = some e ∧ φ2 y = φ1 y:=by
    intro y e h1 h2
    by_cases hy : y ∈ νs
    · exact ⟨by rw [F5 y hy];exact h1,p1 y hy⟩
    · by_cases hx : y ∈ xs
      · obtain ⟨j,k1,k2,k3,k4⟩:=F3 y hx
        exact ⟨by rw [k4,← k3];exact h1,by rw [p2 y hy,locx y hx]⟩
      · rw [(F4 y hy hx).1] at h1
        obtain ⟨rfl,_⟩:=cO h1
        exact absurd rfl h2
   have gen : ∀ {a v},AVC φ1 hpF w' a v → ((∀ b,Own φ2 hpG b → Own φ1 hpF b) ∨ a.flat = true) → AVC φ2 hpG w' a v:=by
    intro a v h hc
    induction h with
    | any v => exact .any v
    | c h =>
      rcases hc with hc|hc
      · exact .c (h.mono (fun b _ hb=>⟨rfl,fun h=>hb (hc b h)⟩) (Nat.le_refl _))
      · exact .c (gu hc h)
    | k v => exact .k v
    | @sl y e h hk' =>
      obtain ⟨h1,h2⟩:=eqs y e h (by omega)
      rw [← h2]
      exact .sl h1 hk'
    | @sld y e h hk' v hone => exact .sld (eqs y e h (by omega)).1 hk' _ hone
    | @ad y off g n cp wd e h hk' hl =>
      obtain ⟨h1,h2⟩:=eqs y e h (by omega)
      exact .ad h1 hk' (by rw [h2];exact hl)
    | @add y off e h hk' v hone => exact .add (eqs y e h (by omega)).1 hk' _ hone
    | @ea y i j g o n cp wd e h hk' hl =>
      obtain ⟨h1,h2⟩:=eqs y e h (by omega)
      exact .ea h1 hk' (by rw [h2];exact hl)
    | @ead y i j e h hk' v hone => exact .ead (eqs y e h (by omega)).1 hk' _ hone
    | el hc' hr hO hb =>
      rcases hc with hc|hc
      · exact .el hc' (fun j hj=>(hr j hj).mono (fun b _ hb=>⟨rfl,fun h=>hb (hc b h)⟩) (Nat.le_refl _)) (fun h=>hO (hc _ h)) hb
      · simp [AV.flat] at hc
    | agg hl _ ih =>
      refine .agg hl fun i hi=>ih i hi ?_
      rcases hc with hc|hc
      · exact .inl hc
      · exact .inr (eB (by simpa [AV.flat] using hc) hi)
    | tup hl _ ih =>
      refine .tup hl fun i hi=>ih i hi ?_
      rcases hc with hc|hc
      · exact .inl hc
      · exact .inr (eB (by simpa [AV.flat] using hc) hi)
    | fn hl _ ih =>
      rcases hc with hc|hc
      · exact .fn hl fun i hi=>ih i hi (.inl hc)
      · simp [AV.flat] at hc
   exact gen hr (hcases.imp id fun h=>h.2.2)
end
section
variable {hp0 : Hp} {ν : Nat → Nat} {L : List Ent}
inductive ArgMs (hp : Hp) (xs : List Nat) : List AV → List AV → Prop where
 | nil : ArgMs hp xs [] []
 | cons {a b : AV} {l m : List AV} (h : ArgM hp xs a b) (t : ArgMs hp xs l m) : ArgMs hp xs (a :: l) (b :: m)
theorem ArgMs.at {hp : Hp} {xs : List Nat} {l m : List AV} (h : ArgMs hp xs l m) : m.length = l.length ∧ ∀ i,i < l.length → ArgM hp xs (l.getD i .any) (m.getD i .any):=by
 induction h with
 | nil => exact ⟨rfl, fun i h => by simp at h⟩
 | cons h t ih =>
   refine ⟨by simp [ih.1],fun i hi=>?_⟩
   cases i with
   | zero => exact h
   | succ i => exact ih.2 i (by simpa using hi)
theorem vi {hp : Hp} {x y off : Nat} (h : y = x) : ArgM hp [x] (.ad x off) (.ad y off):=by subst h;exact .ad (List.mem_singleton.2 rfl)
theorem vj {hp : Hp} {x y : Nat} (h : y = x) : ArgM hp [x] (.sl x) (.sl y):=by subst h;exact .sl (List.mem_singleton.2 rfl)
theorem vm {hp : Hp} {xs : List Nat} {a a' : AV} (h : ArgV hp a a') (hn : a.names = []) : ArgM hp xs a a':=.v h fun y hy=>by rw [hn] at hy;cases hy
theorem wV {hp : Hp} {xs : List Nat} (c : C) : ArgM hp xs (.c c) (.c c):=vm (aZ c) rfl
theorem tp {hp : Hp} {xs : List Nat} {l m : List AV} (h : ArgMs hp xs l m) : ArgM hp xs (.agg l) (.agg m):=.agg h.at.1 h.at.2
theorem vr (hN : Nm hp0 ν) {i j : Nat} {T : TypeId} {nn : Fl} {c c' : C} (h : L[j]? = some (.arr T nn c)) (hr : ef (if nn.nn then .nn c else c) c') (hj : j ≠ i) : ArgM (hpL hp0 ν L) [ν i] (.sl (ν j)) (.c c') :=
 .v (aG hN h hr) fun y hy hm=>by
  have h1 : y = ν j:=List.mem_singleton.1 hy
  have h2 : y = ν i:=List.mem_singleton.1 hm
  exact hj (hN.inj _ _ (h1.symm.trans h2))
theorem qd {P : Program} {f : FuncId} {args : (Nat → Nat) → List AV} {pre post : Ent} {nw : List Ent} {val : List Nat → AV} (hF : ja P f args [pre] [post] nw val) (hN : Nm hp0 ν) (i : Nat) {avs : List AV} {k : Eff → Prop}
  (hpre : L[i]? = some pre) (h1 : pre.plain = true) (h2 : post.plain = true) (h3 : jb [pre] [post] = true) (h4 : nw.all Ent.plain = true) (hm : ν i ∈ bp avs)
  (hA : ∀ ν' : Nat → Nat,ν' 0 = ν i → ArgMs (hpL hp0 ν L) [ν i] avs (args ν'))
  (hc : (∀ y,y ∈ bp avs → y ∈ [ν i]) ∨ (nw.all Ent.flat = true ∧ [post].all Ent.flatB = true ∧ ∀ ν,(val ν).flat = true)) (h : k ⟨True,nw,[(ν i,post)],val⟩) : ∃ E,cM P f avs (hpL hp0 ν L) E ∧ k E:=by
 refine ⟨_,tn hF [ν i] rfl (by simp) (fun x hx=>by rw [List.mem_singleton.1 hx];exact hm) (fun j hj=>?_) (by simp [h1]) (by simp [h2]) h3 h4 (fun ν' hν=>?_) hc,h⟩
 · have : j = 0:=by simp at hj;exact hj
   subst this
   show oA (hpL hp0 ν L) (ν i) pre
   cases pre with
   | box l => show hpL hp0 ν L (ν i) = _; rw [aj hN]; exact hpre
   | arr T nn c => exact ⟨nn, by rw [aj hN]; exact hpre, id, id⟩
   | dead => simp [Ent.plain] at h1
   | ext => simp [Ent.plain] at h1
 · exact (hA ν' (hν 0 (by simp))).at
end
theorem xi {hp0 : Hp} {ν : Nat → Nat} {s : List (Nat × Nat)} {L L' : List Ent} (n : Nat) : LEs hp0 ν s L L' n []:=.nil n
theorem xj {hp0 : Hp} {ν : Nat → Nat} {s : List (Nat × Nat)} {L L' : List Ent} {tm : List (Nat × AV)} : LTs hp0 ν s L L' tm []:=.nil
theorem xk {hp0 : Hp} {ν : Nat → Nat} {s : List (Nat × Nat)} {L L' : List Ent} : LVs hp0 ν s L L' [] []:=.nil
theorem bM {hp0 : Hp} {ν : Nat → Nat} {s : List (Nat × Nat)} {L L' : List Ent} {n : Nat} {e : Ent} {l : List Ent} (h : LE hp0 ν s L L' n e) (t : LEs hp0 ν s L L' (n + 1) l) : LEs hp0 ν s L L' n (e :: l):=.cons h t
theorem bN {hp0 : Hp} {ν : Nat → Nat} {s : List (Nat × Nat)} {L L' : List Ent} {a b : AV} {l m : List AV} (h : LV hp0 ν s L L' a b) (t : LVs hp0 ν s L L' l m) : LVs hp0 ν s L L' (a :: l) (b :: m):=.cons h t
theorem bO {hp0 : Hp} {ν : Nat → Nat} {s : List (Nat × Nat)} {L L' : List Ent} {tm : List (Nat × AV)} {t : Nat} {a b : AV} {l : List (Nat × AV)} (e : tm.lookup t = some a) (h : LV hp0 ν s L L' a b) (r : LTs hp0 ν s L L' tm l) : LTs hp0 ν s L L' tm ((t,b) :: l):=.cons e h r
theorem aJ (c : C) : ef c c:=.refl c
theorem aK (c : C) : ef (.nn c) c:=.unn c
theorem oB {a b : List Bool} (h : a = b) : C.B a = C.B b:=congrArg C.B h
theorem oD {a b : List Int} (h : a = b) : C.I a = C.I b:=congrArg C.I h
theorem oE {a b : List (List Int)} (h : a = b) : C.R a = C.R b:=congrArg C.R h
theorem oG {k : IntKind} {a b : Int} (h : a = b) : C.int k a = C.int k b:=congrArg (C.int k) h
theorem fP {a b : Bool} (h : a = b) : C.bool a = C.bool b:=congrArg C.bool h
class XSt (p : Prop) (q : outParam Prop) : Prop where
 st : q → p
theorem stZ {p q : Prop} [XSt p q] (h : q) : p:=XSt.st h
class XSu (p : Prop) (q : outParam Prop) : Prop where
 su : q → p
theorem suZ {p q : Prop} [XSu p q] (h : q) : p:=XSu.su h
class XCl (p : Prop) : Prop where
 cl : p
theorem clZ {p : Prop} [XCl p] : p:=XCl.cl
class XAg (p : Prop) : Prop where
 ag : p
theorem agZ {p : Prop} [XAg p] : p:=XAg.ag
section
variable {P : Program} {ti : TI} {N : Nat} {hB hp0 : Hp} {ν : Nat → Nat} {ops : Array Oper} {S : List Fr} {Q : fp} {tm : Nat → AV} {hp : Hp} {K : (Nat → AV) → Hp → Prop}
instance xSa (x y : Code) : XSt (Aw P N hB (.seq x y) (Nx P N hB S Q) tm hp) (Aw P N hB x (Nx P N hB (.sq y :: S) Q) tm hp):=⟨uU⟩
instance xSb (y : Code) : XSt (Nx P N hB (.sq y :: S) Q .normal tm hp) (Aw P N hB y (Nx P N hB S Q) tm hp):=⟨wI⟩
instance xSc : XSt (aws P ti hp0 ν ops [] K tm hp) (K tm hp):=⟨uM⟩
instance xSd (l : Nat) : XSt (Aw P N hB (.label l) (Nx P N hB S Q) tm hp) (Nx P N hB S Q .normal tm hp):=⟨rG⟩
instance xSe (id : Nat) (c : Code) : XSt (Aw P N hB (.block id c) (Nx P N hB S Q) tm hp) (Aw P N hB c (Nx P N hB (.bk id :: S) Q) tm hp):=⟨rF⟩
instance xSf (id : Nat) : XSt (Nx P N hB (.bk id :: S) Q .normal tm hp) (Nx P N hB S Q .normal tm hp):=⟨wJ⟩
instance xSg (id : Nat) : XSt (Aw P N hB (.exit id) (Nx P N hB S Q) tm hp) (Nx P N hB S Q (.exit id) tm hp):=⟨tc⟩
instance xSh (y : Code) (i : Nat) : XSt (Nx P N hB (.sq y :: S) Q (.exit i) tm hp) (Nx P N hB S Q (.exit i) tm hp):=⟨uP⟩
instance xSi (i : Nat) : XSt (Nx P N hB (.k K :: S) Q (.exit i) tm hp) (Nx P N hB S Q (.exit i) tm hp):=⟨wK⟩
instance xSj (i : Nat) : XSt (Nx P N hB (.bk i :: S) Q (.exit i) tm hp) (Nx P N hB S Q .normal tm hp):=⟨uQ⟩
instance xSk : XSt (Aw P N hB .ret (Nx P N hB S Q) tm hp) (Nx P N hB S Q .ret tm hp):=⟨uV⟩
instance xSl (y : Code) : XSt (Nx P N hB (.sq y :: S) Q .ret tm hp) (Nx P N hB S Q .ret tm hp):=⟨uR⟩
instance xSm : XSt (Nx P N hB (.k K :: S) Q .ret tm hp) (Nx P N hB S Q .ret tm hp):=⟨wL⟩
instance xSn (id : Nat) : XSt (Nx P N hB (.bk id :: S) Q .ret tm hp) (Nx P N hB S Q .ret tm hp):=⟨uS⟩
instance xSo : XSt (Aw P N hB .skip (Nx P N hB S Q) tm hp) (Nx P N hB S Q .normal tm hp):=⟨tb⟩
instance xSp : XSt (Nx P N hB (.k K :: S) Q .normal tm hp) (K tm hp):=⟨n_k⟩
instance xSq (e : Exit) : XSt (Nx P N hB [] Q e tm hp) (Q e tm hp):=⟨uT⟩
end
section
variable {hp0 : Hp} {ν : Nat → Nat} {s : List (Nat × Nat)} {L L' : List Ent}
instance xCa (n : Nat) : XCl (LEs hp0 ν s L L' n []):=⟨.nil n⟩
instance xCb (tm : List (Nat × AV)) : XCl (LTs hp0 ν s L L' tm []):=⟨.nil⟩
instance xCc : XCl (LVs hp0 ν s L L' [] []):=⟨.nil⟩
instance xCd (a : AV) : XCl (LV hp0 ν s L L' a .any):=⟨th a⟩
instance xCe (c : C) : XCl (LV hp0 ν s L L' (.c c) (.c c)):=⟨wP c⟩
instance xCf (i : Nat) : XCl (LE hp0 ν s L L' i .dead):=⟨rH i⟩
instance xCg (wd : Nat) (f : Nat → C) : XCl (LV hp0 ν s L L' (.el wd f) (.el wd f)):=⟨uX wd f⟩
instance xCh (v : Value) : XCl (LV hp0 ν s L L' (.k v) (.k v)):=⟨wQ v⟩
instance xUa (l m : List AV) : XSu (LV hp0 ν s L L' (.agg l) (.agg m)) (LVs hp0 ν s L L' l m):=⟨tj⟩
instance xUb (f : Fn) (l m : List AV) : XSu (LV hp0 ν s L L' (.fn f l) (.fn f m)) (LVs hp0 ν s L L' l m):=⟨uY⟩
instance xUc (a b : List Bool) : XSt (C.B a = C.B b) (a = b):=⟨congrArg _⟩
instance xUd (a b : List Int) : XSt (C.I a = C.I b) (a = b):=⟨congrArg _⟩
instance xUe (a b : List (List Int)) : XSt (C.R a = C.R b) (a = b):=⟨congrArg _⟩
instance xUf (k : IntKind) (a b : Int) : XSt (C.int k a = C.int k b) (a = b):=⟨congrArg _⟩
instance xUg (a b : Bool) : XSt (C.bool a = C.bool b) (a = b):=⟨congrArg _⟩
end
section
variable {P : Program} {ti : TI} {N : Nat} {hB hp0 : Hp} {ν : Nat → Nat} {ops : Array Oper} {S : List Fr} {Q : fp} {tm : Nat → AV} {hp : Hp}
variable {o : Oper} {l : List Oper} {K : (Nat → AV) → Hp → Prop} {D : List Foot → (Nat → AV) → Hp → Prop} {acc : List Foot} {L : List (Nat × AV)} {j d e : Nat} {want : Bool}
theorem aT {id : Nat} {draw : Bool} (hT : cP P ti) (hN : Nm hp0 ν) (h : aws P ti hp0 ν l.toArray l (Nx P N hB S Q .normal) tm hp) (hd : draw = false:=by exact rfl) (hs : gt N l.toArray = true:=by kernel_rfl) : Aw P N hB (.region id l.toArray draw) (Nx P N hB S Q) tm hp:=uW hT hN hd hs h
theorem aX {id : Nat} {draw : Bool} (hT : cP P ti) (hN : Nm hp0 ν) (h : awd P ti hp0 ν l.toArray l (fun acc tm hp=>mr (ij l.toArray) acc ∧ Nx P N hB S Q .normal tm hp) [] tm hp) (hd : draw = true:=by exact rfl) (hm : P.follows .mixedOrders = true:=by kernel_rfl) (hs : gt N l.toArray = true:=by kernel_rfl) (hst : pF l.toArray = true:=by kernel_rfl) : Aw P N hB (.region id l.toArray draw) (Nx P N hB S Q) tm hp:=rJ hT hN hd hm hs hst h
theorem bE {X : (Nat → AV) → Hp → Prop} (hN : Nm hp0 ν) (hx : X tm hp) (h : ∃ ai,FtI ν acc ai ∧ ftB ops ai = true:=by
 apply Exists.intro;apply And.intro;(repeat' (first|apply FtI.nil|apply FI.nil|apply FI.cons|apply FtI.cons));kernel_rfl) : awd P ti hp0 ν ops [] (fun acc tm hp=>mr (ij ops) acc ∧ X tm hp) acc tm hp:=u7 hN h hx
theorem aU (h : ∀ K' : AV → Hp → Prop,(∀ a hp,aws P ti hp0 ν ops l K (tmL ((d,a) :: L)) hp → K' a hp) → ez P ti o.op (evT (tmL L)) hp fun E=>FN hp0 ν E.nw (aY hp E.up) fun hp' ns=>K' (E.val ns) hp') (hg : o.guard = none:=by exact rfl) (hd : o.dst = some d:=by exact rfl) : aws P ti hp0 ν ops (o :: l) K (tmL L) hp:=u2 hg hd h
theorem aV (h : ∀ K' : Hp → Prop,(∀ hp,aws P ti hp0 ν ops l K (tmL L) hp → K' hp) → ez P ti o.op (evT (tmL L)) hp fun E=>FN hp0 ν E.nw (aY hp E.up) fun hp' ns=>K' hp') (hg : o.guard = none:=by exact rfl) (hd : o.dst = none:=by exact rfl) : aws P ti hp0 ν ops (o :: l) K (tmL L) hp:=u3 hg hd h
theorem bF (h : ∀ K' : Foot → AV → Hp → Prop,(∀ f a hp,awd P ti hp0 ν ops l D (acc ++ [f]) (tmL ((d,a) :: L)) hp → K' f a hp) → ez P ti o.op (evT (tmL L)) hp fun E=>FN hp0 ν E.nw (aY hp E.up) fun hp' ns=>K' ⟨rdN o.op (evT (tmL L)),E.up.map (·.1),ns⟩ (E.val ns) hp') (hg : o.guard = none:=by exact rfl) (hd : o.dst = some d:=by exact rfl) : awd P ti hp0 ν ops (o :: l) D acc (tmL L) hp:=u4 hg hd h
theorem bG (h : ∀ K' : Foot → Hp → Prop,(∀ f hp,awd P ti hp0 ν ops l D (acc ++ [f]) (tmL L) hp → K' f hp) → ez P ti o.op (evT (tmL L)) hp fun E=>FN hp0 ν E.nw (aY hp E.up) fun hp' ns=>K' ⟨rdN o.op (evT (tmL L)),E.up.map (·.1),ns⟩ hp') (hg : o.guard = none:=by exact rfl) (hd : o.dst = none:=by exact rfl) : awd P ti hp0 ν ops (o :: l) D acc (tmL L) hp:=u5 hg hd h
end
attribute [go_sem ↓] aW
attribute [go_sem] beq_self_eq_true
theorem wW {P : Program} {f : FuncId} {args avs : List AV} {nw : List Ent} {val : List Nat → AV} {hp0 : Hp} {ν : Nat → Nat} {L : List Ent} {k : Eff → Prop} (hN : Nm hp0 ν) (hF : ba P f args nw val) (h : k ⟨True,nw,[],val⟩) (hA : i7 (hpL hp0 ν L) avs args:=by
 (repeat' (first|(with_reducible first|exact am|refine ah ?_ ?_|exact aZ _|refine ay ?_|exact ax _|exact aI _ _|refine aH ?_|exact au _)|exact az hN rfl rfl|(refine aG hN rfl ?_;first|exact ef.refl _|exact ef.unn _)|exact aw rfl rfl rfl)) <;> fail) (h1 : nw.all Ent.flat = true:=by exact rfl) (h2 : ∀ ν,(val ν).flat = true:=by exact fun _=>rfl) : ∃ E,cM P f avs (hpL hp0 ν L) E ∧ k E:=aE hF hA h1 h2 h
end Go.Proofs.Ytlodllmpndflcaa
