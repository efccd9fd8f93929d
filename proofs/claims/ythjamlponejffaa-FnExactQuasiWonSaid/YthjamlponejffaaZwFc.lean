/-
  Calls, the types, numbered names, lists by functions, and the bridges to the other way of saying contracts.
-/
import Derived.Test.YthjamlponejffaaZwFa
import Derived.Test.YthjamlponejffaaZwCa
namespace Go.Proofs.Ythjamlponejffaa
set_option linter.unusedVariables false
set_option linter.unusedSimpArgs false
open Go.RowKit
inductive ArgV (hp : Hp) : AV → AV → Prop where
 | any (a : AV) : ArgV hp a .any
 | rd {c c' : C} (h : dR c c') : ArgV hp (.c c) (.c c')
 | k (v : Value) : ArgV hp (.k v) (.k v)
 | el (wd : Nat) (f : Nat → C) : ArgV hp (.el wd f) (.el wd f)
 | fz {x : Nat} {T : TypeId} {nn : Fl} {c c' : C} (h : hp x = some (.arr T nn c)) (hr : dR (if nn.nn then .nn c else c) c') : ArgV hp (.sl x) (.c c')
 | box {x : Nat} {l : List AV} {f : Nat → C} (h : hp x = some (.box l)) (hc : ∀ i, i < l.length → ∃ c, l.getD i .any = .c c ∧ dR c (f i)) : ArgV hp (.ad x 0) (.el l.length f)
 | agg {l l' : List AV} (hl : l'.length = l.length) (h : ∀ i, i < l.length → ArgV hp (l.getD i .any) (l'.getD i .any)) : ArgV hp (.agg l) (.agg l')
 | fn {f : Fn} {l l' : List AV} (hl : l'.length = l.length) (h : ∀ i, i < l.length → ArgV hp (l.getD i .any) (l'.getD i .any)) : ArgV hp (.fn f l) (.fn f l')
noncomputable def dB (hp : Hp) (S : List Nat) : Hp:=fun ν=>if ν ∈ S then none else match hp ν with
 | some e => if e.kind = 2 then none else some .ext
 | none => none
section
variable {P : Program}
theorem om (hp : Hp) (S : List Nat) : Ext (dB hp S):=by
 intro ν e h
 unfold dB at h
 split at h
 · cases h
 · split at h
   · split at h
     · cases h
     · injection h with h;subst h;rfl
   · cases h
theorem dS {hp : Hp} {S : List Nat} {ν : Nat} {e : Ent} (h : dB hp S ν = some e) : e = .ext ∧ ¬ ν ∈ S ∧ ca hp ν:=by
 unfold dB at h
 split at h
 · cases h
 · rename_i hS
   split at h
   · rename_i e0 he0
     split at h
     · cases h
     · rename_i hk;injection h with h;exact ⟨h.symm,hS,e0,he0,hk⟩
   · cases h
theorem pI {hp : Hp} {S : List Nat} {ν : Nat} (h : ¬ ν ∈ S) (hl : ca hp ν) : dB hp S ν = some .ext:=by
 obtain ⟨e,h1,h2⟩:=hl
 unfold dB
 rw [if_neg h,h1]
 simp [h2]
theorem pJ {φ : Nat → Loc} {hp : Hp} {lo : Nat} {w0 w : World} (H : HC φ hp lo w0 w) (S : List Nat) : HC φ (dB hp S) w.heap.size w w:=by
 have lv : ∀ ν,ca (dB hp S) ν → ca hp ν:=fun ν ⟨e,h1,_⟩=>(dS h1).2.2
 obtain ⟨b,hb⟩:=H.fin
 refine ⟨Below.refl _ _,Nat.le_refl _,⟨b,fun ν h=>?_⟩,fun ν e he=>?_,fun ν ν' b hne h1 h2 h3=>H.sep ν ν' b hne (lv ν h1) (lv ν' h2) h3,fun ν b h1 h2=>?_⟩
 · unfold dB;rw [hb ν h];split <;> rfl
 · obtain ⟨rfl,h1,h2⟩:=dS he
   obtain ⟨e,h3,h4⟩:=h2
   exact fun b hb=>H.lt ⟨e,h3,h4⟩ hb
 · obtain ⟨e,k1,k2⟩:=h1
   obtain ⟨rfl,_⟩:=dS k1
   simp [Ent.kind] at k2
theorem lx {φ : Nat → Loc} {hp hp1 hp' : Hp} {lo : Nat} {w0 w : World} {S : List Nat} (H : HC φ hp1 lo w0 w) (own : ∀ b,Own φ hp' b → ∃ y,ca hp1 y ∧ (φ y).blk = some b ∧ ¬ y ∈ S) {a a' : AV} {v : Value} (h : ArgV hp a a') (hs : ∀ ν,ν ∈ a.names → hp1 ν = hp ν ∧ ν ∈ S) (hv : AVC φ hp1 w a v) : AVC φ hp' w a' v:=by
 have own' : ∀ b,Own φ hp' b → Own φ hp1 b:=fun b h=>let ⟨y,k1,k2,_⟩:=own b h;⟨y,k1,k2⟩
 have mono : ∀ {c v},Rd (Own φ hp1) w c v → Rd (Own φ hp') w c v:=fun h=>h.mono (fun b _ hb=>⟨rfl,fun h=>hb (own' b h)⟩) (Nat.le_refl _)
 induction h generalizing v with
 | any => exact .any v
 | rd h => cases hv with | c hr => exact .c (h _ _ _ (mono hr))
 | k => cases hv; exact .k _
 | el wd f => cases hv with | el hc hr hO hb => exact .el hc (fun j hj => mono (hr j hj)) (fun h => hO (own' _ h)) hb
 | @fz x T nn c c' h hr =>
   obtain ⟨e1,e2⟩:=hs x (by simp [AV.names])
   rw [← e1] at h
   have e:=eE hv h
   subst e
   refine .c (hr _ _ _ (eU (H.ent x _ h) (fun b hb hh=>⟨rfl,fun ho=>?_⟩) (Nat.le_refl _)))
   obtain ⟨y,y1,y2,y3⟩:=own b ho
   rcases hh with hh|hh
   · exact hh ⟨y,y1,y2⟩
   · exact H.sep x y b (fun e=>y3 (by subst e;exact e2)) ⟨_,h,by simp [Ent.kind]⟩ y1 hh y2
 | @box x l f h hc =>
   obtain ⟨e1,e2⟩:=hs x (by simp [AV.names])
   rw [← e1] at h
   obtain ⟨g,n,cp,wd,hl,rfl⟩:=fv hv h
   obtain ⟨cur,T',h1,h2,h3⟩:=dO H h hl
   refine .el (vs:=fun i=>cur.getD i undef) (fun j hj=>?_) (fun j hj=>?_) (fun ho=>?_) (Array.getElem?_eq_some_iff.1 h1).1
   · refine d6 h1 ?_
     rw [Nat.zero_add,Array.getD_eq_getD_getElem?]
     simp [show j < cur.size by omega]
   · obtain ⟨c,q1,q2⟩:=hc j hj
     have:=h3 j hj
     rw [q1] at this
     exact q2 _ _ _ (mono (dw this))
   · obtain ⟨y,y1,y2,y3⟩:=own g ho
     exact H.sep x y g (fun e=>y3 (by subst e;exact e2)) ⟨_,h,by simp [Ent.kind]⟩ y1 (by rw [hl];rfl) y2
 | agg hl _ ih =>
   obtain ⟨vs,rfl,h1,h2⟩:=eX hv
   refine .agg (by omega) fun i hi=>ih i (by omega) (fun ν hν=>hs ν ?_) (h2 i (by omega))
   simp only [AV.names]
   have hi':=Nat.lt_of_lt_of_le hi (Nat.le_of_eq hl)
   rw [bB hi'] at hν
   exact cT (List.getElem_mem hi') hν
 | fn hl _ ih =>
   cases hv with
   | fn h1 h2 =>
     refine .fn (by omega) fun i hi=>ih i (by omega) (fun ν hν=>hs ν ?_) (h2 i (by omega))
     simp only [AV.names]
     have hi':=Nat.lt_of_lt_of_le hi (Nat.le_of_eq hl)
     rw [bB hi'] at hν
     exact cT (List.getElem_mem hi') hν
theorem m9 {φ : Nat → Loc} {hp hp1 : Hp} {lo : Nat} {w0 w : World} {S : List Nat} (H : HC φ hp1 lo w0 w) {a a' : AV} {v : Value} (h : ArgV hp a a') (hs : ∀ ν,ν ∈ a.names → hp1 ν = hp ν ∧ ν ∈ S) (hv : AVC φ hp1 w a v) : AVC φ (dB hp1 S) w a' v :=
 lx H (fun b ⟨y,⟨e,k1,_⟩,h2⟩=>let ⟨_,q1,q2⟩:=dS k1;⟨y,q2,h2,q1⟩) h hs hv
def hZ (hp : Hp) (avs args : List AV) : Prop:=args.length = avs.length ∧ ∀ i,i < avs.length → ArgV hp (avs.getD i .any) (args.getD i .any)
def C.flat : C → Bool
 | .I _ | .B _ | .Y _ => true
 | _ => false
def C.scal : C → Bool
 | .int _ _ | .bool _ | .nul => true
 | _ => false
def Ent.flat : Ent → Bool
 | .arr _ _ c => c.flat
 | _ => false
mutual
def AV.flat : AV → Bool
 | .any | .sl _ => true
 | .c c => c.scal
 | .agg l => kr l
 | .tup l => kr l
 | _ => false
def kr : List AV → Bool
 | [] => true
 | a :: l => a.flat && kr l
end
theorem iX {l : List AV} (h : kr l = true) {i : Nat} (hi : i < l.length) : (l.getD i .any).flat = true:=by
 induction l generalizing i with
 | nil => simp at hi
 | cons a l ih =>
   simp only [kr,Bool.and_eq_true] at h
   cases i with
   | zero => exact h.1
   | succ i => simpa using ih h.2 (by simpa using hi)
theorem l6 {O O' : Nat → Prop} {w w' : World} {c : C} {v : Value} (hc : c.scal = true) (h : Rd O w c v) : Rd O' w' c v:=by
 cases h with
 | int => exact .int _ _
 | bool => exact .bool _
 | nul => exact .nul
 | sl hv => cases c <;> first | (simp [C.scal] at hc; done) | (simp [C.view] at hv)
theorem pK {c : C} {V : View} (hf : c.flat = true) (hv : c.view = some V) (i j : Nat) : (V.at' i j).scal = true:=by
 cases c <;> first|(simp [C.flat] at hf;done)|(simp only [C.view,Option.some.injEq] at hv;subst hv;rfl)
theorem iY {f : FuncId} {args avs : List AV} {nw : List Ent} {val : List Nat → AV} (hF : au P f args nw val) {hp : Hp} (hA : hZ hp avs args) (fz : List Nat) (hfz : ∀ x,x ∈ fz → ∃ e,hp x = some e ∧ e.kind = 1 ∧ x ∈ bn avs)
  (hk : ∀ e,e ∈ nw → e.kind = 1) (hcase : (∀ x,x ∈ bn avs → x ∈ fz) ∨ (nw.all Ent.flat = true ∧ ∀ ν,(val ν).flat = true)) : ci P f avs hp ⟨True,nw,bJ fz,val⟩:=by
 obtain ⟨hcall,hspec⟩:=hF
 refine ⟨hcall,fun φ hp1 lo w0 w vs hsame H hl hv=>?_⟩
 have hX:=om hp1 (bn avs)
 have H1:=pJ H (bn avs)
 have hargs : ∀ i,i < args.length → AVC φ (dB hp1 (bn avs)) w (args.getD i .any) (vs.getD i undef):=by
  intro i hi
  have hi' : i < avs.length:=by rw [← hA.1];exact hi
  refine m9 H (hA.2 i hi') (fun ν hν=>?_) (hv i hi')
  have : ν ∈ bn avs:=by rw [bB hi'] at hν;exact cT (List.getElem_mem hi') hν
  exact ⟨hsame ν this,this⟩
 refine (hspec φ _ w vs hX H1 (by rw [hl,hA.1]) hargs).mono fun e w' ⟨v,he,hO⟩=>⟨v,he,fun ν n1 n2 n3=>?_⟩
 have n1 : ν.length = nw.length:=n1
 have n3' : ∀ x,x ∈ ν → dB hp1 (bn avs) x = none:=fun x hx=>by
  unfold dB;rw [n3 x hx];split <;> rfl
 obtain ⟨φ1,K,EV,hr⟩:=hO ν n1 n2 n3'
 change HC φ1 (bM (dB hp1 (bn avs)) ν nw) w.heap.size w w' at K
 change Evo φ _ w φ1 (bM (dB hp1 (bn avs)) ν nw) w' at EV
 change AVC φ1 (bM (dB hp1 (bn avs)) ν nw) w' (val ν) v at hr
 have hfz1 : ∀ x,x ∈ fz → ∃ e,hp1 x = some e ∧ e.kind = 1:=fun x hx=>by
  obtain ⟨e,h1,h2,h3⟩:=hfz x hx
  exact ⟨e,by rw [hsame x h3];exact h1,h2⟩
 have hνfz : ∀ x,x ∈ ν → ¬ x ∈ fz:=fun x hx h=>by obtain ⟨e,h1,_⟩:=hfz1 x h;rw [n3 x hx] at h1;cases h1
 let φ' : Nat → Loc:=fun y=>if y ∈ ν then φ1 y else φ y
 let hp' : Hp:=bM (aM hp1 (bJ fz)) ν nw
 show ∃ φ'',HC φ'' hp' lo w0 w' ∧ Evo φ hp1 w φ'' hp' w' ∧ AVC φ'' hp' w' (val ν) v
 have p1 : ∀ y,y ∈ ν → φ' y = φ1 y:=fun y h=>if_pos h
 have p2 : ∀ y,¬ y ∈ ν → φ' y = φ y:=fun y h=>if_neg h
 have q1 : ∀ y,y ∈ ν → hp' y = bM (dB hp1 (bn avs)) ν nw y:=fun y h=>by
  obtain ⟨k1,k2⟩:=eM h
  show bM _ ν nw y = _
  rw [← k2,eL n1 n2 k1,eL n1 n2 k1]
 have q2 : ∀ y,¬ y ∈ ν → hp' y = if y ∈ fz then some .dead else hp1 y:=fun y h=>by
  show bM _ ν nw y = _
  rw [fc h,cc]
 have lv : ∀ y,¬ y ∈ ν → (ca hp' y ↔ ¬ y ∈ fz ∧ ca hp1 y):=by
  intro y h
  unfold ca
  rw [q2 y h]
  by_cases hz : y ∈ fz
  · rw [if_pos hz]
    simp only [Option.some.injEq,hz,not_true,false_and,iff_false]
    rintro ⟨e,rfl,hk⟩
    exact hk rfl
  · rw [if_neg hz];simp [hz]
 have lvn : ∀ y,y ∈ ν → (ca hp' y ↔ ca (bM (dB hp1 (bn avs)) ν nw) y):=fun y h=>by unfold ca;rw [q1 y h]
 have kindn : ∀ y e,y ∈ ν → bM (dB hp1 (bn avs)) ν nw y = some e → e.kind = 1:=fun y e hy h=>by
  obtain ⟨m1,m2⟩:=eM hy
  rw [← m2,eL n1 n2 m1] at h
  injection h with h
  have hi : ν.idxOf y < nw.length:=by omega
  rw [bB hi] at h
  subst h
  exact hk _ (List.getElem_mem hi)
 have newblk : ∀ y,y ∈ ν → ca hp' y → ∀ b,(φ1 y).blk = some b → w.heap.size ≤ b:=by
  intro y hy hL b hb
  obtain ⟨e,k1,k2⟩:=(lvn y hy).1 hL
  exact K.lo y b ⟨e,k1,by have:=kindn y e hy k1;omega⟩ hb
 have hcases : (∀ b,Own φ' hp' b → Own φ1 (bM (dB hp1 (bn avs)) ν nw) b) ∨ (nw.all Ent.flat = true ∧ (val ν).flat = true):=by
  rcases hcase with hc|⟨h1,h2⟩
  · refine .inl ?_
    rintro b ⟨y,y1,y2⟩
    by_cases hy : y ∈ ν
    · rw [p1 y hy] at y2
      exact ⟨y,(lvn y hy).1 y1,y2⟩
    · rw [p2 y hy] at y2
      obtain ⟨z1,z2⟩:=(lv y hy).1 y1
      have hn : ¬ y ∈ bn avs:=fun h=>z1 (hc y h)
      have hx:=pI hn z2
      obtain ⟨e',m1,⟨m2,m3⟩|⟨m2,m3⟩⟩:=EV.nm y _ hx
      · exact absurd rfl m3
      · exact ⟨y,⟨e',m1,by rw [m2];simp [Ent.kind]⟩,by rw [m3];exact y2⟩
  · exact .inr ⟨h1,h2 ν⟩
 have E : Evo φ hp1 w φ' hp' w':=by
  refine ⟨fun y e hy=>?_,fun b hb ho=>⟨K.fr.block b hb,fun ⟨y,y1,y2⟩=>?_⟩,K.fr.size,fun b hb _=>K.fr.block b hb⟩
  · have hyν : ¬ y ∈ ν:=fun h=>by rw [n3 y h] at hy;cases hy
    rw [q2 y hyν,p2 y hyν]
    by_cases hz : y ∈ fz
    · rw [if_pos hz]
      obtain ⟨e0,k1,k2⟩:=hfz1 y hz
      rw [hy] at k1;injection k1 with k1;subst k1
      exact ⟨.dead,rfl,.inl ⟨rfl,by omega⟩⟩
    · rw [if_neg hz];exact ⟨e,hy,.inr ⟨rfl,rfl⟩⟩
  · by_cases hy : y ∈ ν
    · rw [p1 y hy] at y2
      have:=newblk y hy y1 b y2
      omega
    · rw [p2 y hy] at y2
      exact ho ⟨y,((lv y hy).1 y1).2,y2⟩
 refine ⟨φ',⟨H.fr.trans (K.fr.mono H.l0),Nat.le_trans H.l0 K.fr.size,?_,fun y e hy=>?_,fun y y' b hne h1 h2 h3 h4=>?_,fun y b h1 h2=>?_⟩,E,?_⟩
 · show gz hp'
   show gz (bM _ ν nw)
   rw [fb];exact fM (fM H.fin _) _
 · by_cases hyν : y ∈ ν
   · rw [q1 y hyν] at hy
     rw [p1 y hyν]
     have hkd:=kindn y e hyν hy
     have hE:=K.ent y e hy
     cases e with
     | arr T nn c =>
       obtain ⟨V,hv,hnn,k|⟨g,o,cp,cur,k1,k2,k3,k4,k5,kh,k6⟩⟩:=hE
       · exact ⟨V,hv,hnn,.inl k⟩
       · refine ⟨V,hv,hnn,.inr ⟨g,o,cp,cur,k1,k2,k3,k4,k5,kh,fun i hi j hj=>?_⟩⟩
         obtain ⟨u,m1,m2⟩:=k6 i hi j hj
         refine ⟨u,m1,?_⟩
         rcases hcases with hc|⟨hc,_⟩
         · exact m2.mono (fun b _ hb=>⟨rfl,fun h=>hb (hc b h)⟩) (Nat.le_refl _)
         · obtain ⟨r1,r2⟩:=eM hyν
           rw [← r2,eL n1 n2 r1] at hy
           injection hy with hy
           have hi' : ν.idxOf y < nw.length:=by omega
           rw [bB hi'] at hy
           have:=List.all_eq_true.1 hc _ (List.getElem_mem hi')
           rw [hy] at this
           exact l6 (pK this hv i j) m2
     | _ => simp [Ent.kind] at hkd
   · rw [q2 y hyν] at hy
     rw [p2 y hyν]
     by_cases hz : y ∈ fz
     · rw [if_pos hz] at hy;injection hy with hy;subst hy;trivial
     · rw [if_neg hz] at hy
       exact (H.ent y e hy).evo E fun hk b hb=>K.fr.block b (H.lt ⟨e,hy,hk⟩ hb)
 · by_cases hy : y ∈ ν <;> by_cases hy' : y' ∈ ν
   · rw [p1 y hy] at h3;rw [p1 y' hy'] at h4
     exact K.sep y y' b hne ((lvn y hy).1 h1) ((lvn y' hy').1 h2) h3 h4
   · rw [p1 y hy] at h3;rw [p2 y' hy'] at h4
     have:=newblk y hy h1 b h3
     have:=H.lt ((lv y' hy').1 h2).2 h4
     omega
   · rw [p2 y hy] at h3;rw [p1 y' hy'] at h4
     have:=newblk y' hy' h2 b h4
     have:=H.lt ((lv y hy).1 h1).2 h3
     omega
   · rw [p2 y hy] at h3;rw [p2 y' hy'] at h4
     exact H.sep y y' b hne ((lv y hy).1 h1).2 ((lv y' hy').1 h2).2 h3 h4
 · by_cases hy : y ∈ ν
   · rw [p1 y hy] at h2
     have:=newblk y hy h1.live b h2
     have:=H.l0
     omega
   · rw [p2 y hy] at h2
     obtain ⟨e,k1,k2⟩:=h1
     rw [q2 y hy] at k1
     by_cases hz : y ∈ fz
     · rw [if_pos hz] at k1;injection k1 with k1;subst k1;simp [Ent.kind] at k2
     · rw [if_neg hz] at k1;exact H.lo y b ⟨e,k1,k2⟩ h2
 · have inν : ∀ y e,bM (dB hp1 (bn avs)) ν nw y = some e → e.kind ≠ 3 → y ∈ ν:=by
    intro y e h1 h2
    by_cases hy : y ∈ ν
    · exact hy
    · rw [fc hy] at h1
      obtain ⟨rfl,_⟩:=dS h1
      exact absurd rfl h2
   have gen : ∀ {a v},AVC φ1 (bM (dB hp1 (bn avs)) ν nw) w' a v → ((∀ b,Own φ' hp' b → Own φ1 (bM (dB hp1 (bn avs)) ν nw) b) ∨ a.flat = true) → AVC φ' hp' w' a v:=by
    intro a v h hc
    induction h with
    | any v => exact .any v
    | c h =>
      rcases hc with hc|hc
      · exact .c (h.mono (fun b _ hb=>⟨rfl,fun h=>hb (hc b h)⟩) (Nat.le_refl _))
      · exact .c (l6 hc h)
    | k v => exact .k v
    | @sl y e h hk' =>
      have hy:=inν y e h (by omega)
      rw [← p1 y hy]
      exact .sl (by rw [q1 y hy];exact h) hk'
    | @sld y e h hk' v hone =>
      have hy:=inν y e h (by omega)
      exact .sld (by rw [q1 y hy];exact h) hk' _ hone
    | @ad y off g n cp wd e h hk' hl =>
      have hy:=inν y e h (by omega)
      exact .ad (by rw [q1 y hy];exact h) hk' (by rw [p1 y hy];exact hl)
    | @add y off e h hk' v hone =>
      have hy:=inν y e h (by omega)
      exact .add (by rw [q1 y hy];exact h) hk' _ hone
    | @ea y i j g o n cp wd e h hk' hl =>
      have hy:=inν y e h (by omega)
      exact .ea (by rw [q1 y hy];exact h) hk' (by rw [p1 y hy];exact hl)
    | @ead y i j e h hk' v hone =>
      have hy:=inν y e h (by omega)
      exact .ead (by rw [q1 y hy];exact h) hk' _ hone
    | el hc' hr hO hb =>
      rcases hc with hc|hc
      · exact .el hc' (fun j hj=>(hr j hj).mono (fun b _ hb=>⟨rfl,fun h=>hb (hc b h)⟩) (Nat.le_refl _)) (fun h=>hO (hc _ h)) hb
      · simp [AV.flat] at hc
    | agg hl _ ih =>
      refine .agg hl fun i hi=>ih i hi ?_
      rcases hc with hc|hc
      · exact .inl hc
      · exact .inr (iX (by simpa [AV.flat] using hc) hi)
    | tup hl _ ih =>
      refine .tup hl fun i hi=>ih i hi ?_
      rcases hc with hc|hc
      · exact .inl hc
      · exact .inr (iX (by simpa [AV.flat] using hc) hi)
    | fn hl _ ih =>
      rcases hc with hc|hc
      · exact .fn hl fun i hi=>ih i hi (.inl hc)
      · simp [AV.flat] at hc
   exact gen hr (hcases.imp id (·.2))
theorem na {f : FuncId} {args avs : List AV} {nw : List Ent} {val : List Nat → AV} (hF : au P f args nw val) {hp : Hp} (hA : hZ hp avs args) (h1 : nw.all Ent.flat = true) (h2 : ∀ ν,(val ν).flat = true) : ci P f avs hp ⟨True,nw,[],val⟩ :=
 iY hF hA [] (fun x hx=>by cases hx) (fun e he=>by
  have:=List.all_eq_true.1 h1 e he
  cases e <;> simp [Ent.flat] at this
  rfl) (.inr ⟨h1,h2⟩)
theorem nb {f : FuncId} {args avs : List AV} {nw : List Ent} {val : List Nat → AV} (hF : au P f args nw val) {hp : Hp} (hA : hZ hp avs args) (hn : bn avs = []) (hk : ∀ e,e ∈ nw → e.kind = 1) : ci P f avs hp ⟨True,nw,[],val⟩ :=
 iY hF hA [] (fun x hx=>by cases hx) hk (.inl fun x hx=>by rw [hn] at hx;cases hx)
end
end Go.Proofs.Ythjamlponejffaa
namespace Go.Proofs.Ythjamlponejffaa
set_option linter.unusedVariables false
set_option linter.unusedSimpArgs false
open Go.RowKit
def shB (P : Program) : TSh → TypeDesc → Bool
 | .int k, .int k' => k == k'
 | .bool, .bool => true
 | .slice e, .slice e' => e == e'
 | .struct fs, .struct F => (F.toList.map fun f => (f.offset, f.type)) == fs && (F.toList.mapM fun f => (P.info? f.type).map fun i => (f.offset, i.size)).isSome
 | .other, d => !d.isRow
 | _, _ => false
theorem nc {α β : Type} {f : α → Option β} : ∀ {l : List α} {L : List β},l.mapM f = some L → ∀ (i : Nat) x,l[i]? = some x → ∃ y,f x = some y ∧ L[i]? = some y:=by
 intro l
 induction l with
 | nil => intro L _ i x h; simp at h
 | cons a l ih =>
   intro L h i x hx
   rw [List.mapM_cons] at h
   cases ha : f a with
   | none => simp [ha] at h
   | some b =>
     cases hl : l.mapM f with
     | none => simp [ha, hl] at h
     | some M =>
       simp [ha,hl] at h
       subst h
       cases i with
       | zero => simp at hx; subst hx; exact ⟨b, ha, rfl⟩
       | succ i => simpa using ih hl i x (by simpa using hx)
theorem aP {P : Program} {T : TypeId} {t : TInfo} (z : Value) (bytes : Nat) (h1 : ((P.info? T).map fun i=>(i.zero,i.size,i.bytes)) = some (some z,t.size,bytes)) (h2 : bytes ≤ 1024) (hz : t.zero = z.cells.toList.map gE) (hl : t.zero.length = t.size) (ho : t.zero.all AV.one = true)
  (hs : ((P.underlying T).map fun d=>shB P t.sh d) = some true) (he : ∀ c,t.em = some c → c.isNN = false ∧ ∃ V,c.view = some V ∧ V.len = 0 ∧ V.wd = t.size) : ∃ i z d,TOk P T t i z d:=by
 cases hi : P.info? T with
 | none => rw [hi] at h1; cases h1
 | some i =>
   rw [hi] at h1
   simp only [Option.map_some,Option.some.injEq,Prod.mk.injEq] at h1
   obtain ⟨g1,g2,g3⟩:=h1
   cases hu : P.underlying T with
   | none => rw [hu] at hs; cases hs
   | some d =>
     rw [hu] at hs
     simp only [Option.map_some,Option.some.injEq] at hs
     refine ⟨i,z,d,hi,g2,by omega,g1,by rw [hz];simp,hl,fun j hj φ hp w=>?_,ho,hu,?_,?_,he⟩
     · rw [hz] at hj ⊢
       have hj' : j < z.cells.toList.length:=by simpa using hj
       rw [eF]
       simp only [List.getD_eq_getElem?_getD,List.getElem?_map,List.getElem?_eq_getElem hj',Option.map_some,Option.getD_some]
       exact iQ _
     · revert hs
       cases t.sh <;> cases d <;> intro hs <;> simp only [shB,Bool.false_eq_true,beq_iff_eq,Bool.and_eq_true,Bool.not_eq_true',eD,reduceCtorEq] at hs ⊢
       all_goals first
        | trivial
        | (rw [hs]; done)
        | (simp [TypeDesc.isRow] at hs; done)
        | rfl
        | skip
       obtain ⟨k1,k2⟩:=hs
       refine ⟨_,rfl,fun i o T' h=>?_⟩
       rw [← k1,List.getElem?_map] at h
       rename_i fs F
       cases hf : F.toList[i]? with
       | none => rw [hf] at h; cases h
       | some f =>
         rw [hf] at h
         simp only [Option.map_some,Option.some.injEq,Prod.mk.injEq] at h
         exact ⟨f,by simpa using hf,h.1,h.2⟩
     · intro F fs hsh hd
       subst hd
       rw [hsh] at hs
       simp only [shB,Bool.and_eq_true,beq_iff_eq] at hs
       obtain ⟨k1,k2⟩:=hs
       obtain ⟨places,hp⟩:=Option.isSome_iff_exists.1 k2
       refine ⟨places,hp,fun i o T' h=>?_⟩
       rw [← k1,List.getElem?_map] at h
       cases hf : F.toList[i]? with
       | none => rw [hf] at h; cases h
       | some f =>
         rw [hf] at h
         simp only [Option.map_some,Option.some.injEq,Prod.mk.injEq] at h
         obtain ⟨y,y1,y2⟩:=nc hp i f hf
         cases hi' : P.info? f.type with
         | none => rw [hi'] at y1; cases y1
         | some i' =>
           rw [hi'] at y1
           simp only [Option.map_some,Option.some.injEq] at y1
           exact ⟨i',by rw [← h.2];exact hi',by rw [y2,← y1,h.1]⟩
def tiL : List (Nat × TInfo):=[
 (2,⟨.int .i64,1,[.c (.int .i64 0)],some (.I [])⟩),
 (3,⟨.int .i64,1,[.c (.int .i64 0)],some (.I [])⟩),
 (4,⟨.bool,1,[.c (.bool false)],some (.B [])⟩),
 (5,⟨.int .u8,1,[.c (.int .u8 0)],some (.Y [])⟩),
 (6,⟨.int .u8,1,[.c (.int .u8 0)],some (.Y [])⟩),
 (7,⟨.struct [(0,2),(1,3),(2,4),(3,6)],4,[.c (.int .i64 0),.c (.int .i64 0),.c (.bool false),.c (.int .u8 0)],some (.V 4 [])⟩),
 (8,⟨.struct [(0,2),(1,3),(2,4),(3,6)],4,[.c (.int .i64 0),.c (.int .i64 0),.c (.bool false),.c (.int .u8 0)],some (.V 4 [])⟩),
 (12,⟨.int .u64,1,[.c (.int .u64 0)],none⟩),
 (15,⟨.other,1,[.k (Value.pointer none)],none⟩),
 (16,⟨.other,1,[.k (Value.pointer none)],none⟩),
 (17,⟨.other,1,[.k (Value.pointer none)],none⟩),
 (18,⟨.struct [(0,17)],1,[.k (Value.pointer none)],some (.V 1 [])⟩),
 (19,⟨.struct [(0,17)],1,[.k (Value.pointer none)],some (.V 1 [])⟩),
 (21,⟨.int .i32,1,[.c (.int .i32 0)],none⟩),
 (22,⟨.slice 2,1,[.c .nul],some (.R [])⟩),
 (23,⟨.slice 22,1,[.c .nul],some (.V 1 [])⟩),
 (24,⟨.struct [(0,22),(1,23)],2,[.c .nul,.c .nul],some (.V 2 [])⟩),
 (25,⟨.struct [(0,22),(1,23)],2,[.c .nul,.c .nul],some (.V 2 [])⟩),
 (26,⟨.struct [(0,25),(2,22)],3,[.c .nul,.c .nul,.c .nul],some (.V 3 [])⟩),
 (27,⟨.struct [(0,25),(2,22)],3,[.c .nul,.c .nul,.c .nul],some (.V 3 [])⟩),
 (30,⟨.struct [(0,22),(1,23)],2,[.c .nul,.c .nul],some (.V 2 [])⟩),
 (31,⟨.struct [(0,30),(2,22)],3,[.c .nul,.c .nul,.c .nul],some (.V 3 [])⟩),
 (32,⟨.struct [(0,30),(2,22)],3,[.c .nul,.c .nul,.c .nul],some (.V 3 [])⟩),
 (42,⟨.slice 5,1,[.c .nul],some (.V 1 [])⟩),
 (44,⟨.other,1,[.k (Value.pointer none)],none⟩),
 (46,⟨.int .u64,1,[.c (.int .u64 0)],none⟩),
 (54,⟨.struct [(0,22),(1,22)],2,[.c .nul,.c .nul],some (.V 2 [])⟩),
 (55,⟨.struct [(0,22),(1,22)],2,[.c .nul,.c .nul],some (.V 2 [])⟩),
 (69,⟨.slice 4,1,[.c .nul],some (.V 1 [])⟩),
 (71,⟨.struct [(0,22),(1,22),(2,23),(3,23),(4,22)],5,[.c .nul,.c .nul,.c .nul,.c .nul,.c .nul],some (.V 5 [])⟩),
 (72,⟨.struct [(0,22),(1,22),(2,23),(3,23),(4,22)],5,[.c .nul,.c .nul,.c .nul,.c .nul,.c .nul],some (.V 5 [])⟩),
 (76,⟨.other,1,[.k (Value.pointer none)],none⟩),
 (81,⟨.struct [(0,42),(1,3),(2,46)],3,[.c .nul,.c (.int .i64 0),.c (.int .u64 0)],some (.V 3 [])⟩),
 (82,⟨.struct [(0,42),(1,3),(2,46)],3,[.c .nul,.c (.int .i64 0),.c (.int .u64 0)],some (.V 3 [])⟩),
 (84,⟨.int .u64,1,[.c (.int .u64 0)],none⟩),
 (98,⟨.other,1,[.k (Value.map none)],none⟩),
 (99,⟨.struct [(0,32),(3,98)],4,[.c .nul,.c .nul,.c .nul,.k (Value.map none)],some (.V 4 [])⟩),
 (100,⟨.struct [(0,32),(3,98)],4,[.c .nul,.c .nul,.c .nul,.k (Value.map none)],some (.V 4 [])⟩),
 (101,⟨.struct [(0,2),(1,2),(2,2),(3,2),(4,2)],5,[.c (.int .i64 0),.c (.int .i64 0),.c (.int .i64 0),.c (.int .i64 0),.c (.int .i64 0)],some (.V 5 [])⟩),
 (102,⟨.struct [(0,2),(1,2),(2,2),(3,2),(4,2)],5,[.c (.int .i64 0),.c (.int .i64 0),.c (.int .i64 0),.c (.int .i64 0),.c (.int .i64 0)],some (.V 5 [])⟩),
 (115,⟨.other,1,[.k (Value.map none)],none⟩),
 (132,⟨.int .i64,1,[.c (.int .i64 0)],some (.I [])⟩),
 (139,⟨.int .u32,1,[.c (.int .u32 0)],none⟩),
 (141,⟨.int .u64,1,[.c (.int .u64 0)],none⟩),
 (145,⟨.other,1,[.k (Value.pointer none)],none⟩),
 (147,⟨.other,1,[.k (Value.pointer none)],none⟩),
 (157,⟨.int .u8,1,[.c (.int .u8 0)],some (.Y [])⟩),
 (158,⟨.int .u8,1,[.c (.int .u8 0)],some (.Y [])⟩),
 (160,⟨.other,1,[.k (Value.pointer none)],none⟩),
 (161,⟨.int .i32,1,[.c (.int .i32 0)],none⟩),
 (162,⟨.int .i32,1,[.c (.int .i32 0)],none⟩)]
def ti : TI:=fun T=>tiL.lookup T
theorem ti2 : ti 2 = some ⟨.int .i64,1,[.c (.int .i64 0)],some (.I [])⟩:=rfl
theorem ti3 : ti 3 = some ⟨.int .i64,1,[.c (.int .i64 0)],some (.I [])⟩:=rfl
theorem ti4 : ti 4 = some ⟨.bool,1,[.c (.bool false)],some (.B [])⟩:=rfl
theorem ti5 : ti 5 = some ⟨.int .u8,1,[.c (.int .u8 0)],some (.Y [])⟩:=rfl
theorem ti6 : ti 6 = some ⟨.int .u8,1,[.c (.int .u8 0)],some (.Y [])⟩:=rfl
theorem ti7 : ti 7 = some ⟨.struct [(0,2),(1,3),(2,4),(3,6)],4,[.c (.int .i64 0),.c (.int .i64 0),.c (.bool false),.c (.int .u8 0)],some (.V 4 [])⟩:=rfl
theorem ti8 : ti 8 = some ⟨.struct [(0,2),(1,3),(2,4),(3,6)],4,[.c (.int .i64 0),.c (.int .i64 0),.c (.bool false),.c (.int .u8 0)],some (.V 4 [])⟩:=rfl
theorem uv : ti 12 = some ⟨.int .u64,1,[.c (.int .u64 0)],none⟩:=rfl
theorem uw : ti 15 = some ⟨.other,1,[.k (Value.pointer none)],none⟩:=rfl
theorem ux : ti 16 = some ⟨.other,1,[.k (Value.pointer none)],none⟩:=rfl
theorem uy : ti 17 = some ⟨.other,1,[.k (Value.pointer none)],none⟩:=rfl
theorem uz : ti 18 = some ⟨.struct [(0,17)],1,[.k (Value.pointer none)],some (.V 1 [])⟩:=rfl
theorem uA : ti 19 = some ⟨.struct [(0,17)],1,[.k (Value.pointer none)],some (.V 1 [])⟩:=rfl
theorem uB : ti 21 = some ⟨.int .i32,1,[.c (.int .i32 0)],none⟩:=rfl
theorem uC : ti 22 = some ⟨.slice 2,1,[.c .nul],some (.R [])⟩:=rfl
theorem uD : ti 23 = some ⟨.slice 22,1,[.c .nul],some (.V 1 [])⟩:=rfl
theorem uE : ti 24 = some ⟨.struct [(0,22),(1,23)],2,[.c .nul,.c .nul],some (.V 2 [])⟩:=rfl
theorem uF : ti 25 = some ⟨.struct [(0,22),(1,23)],2,[.c .nul,.c .nul],some (.V 2 [])⟩:=rfl
theorem uG : ti 26 = some ⟨.struct [(0,25),(2,22)],3,[.c .nul,.c .nul,.c .nul],some (.V 3 [])⟩:=rfl
theorem uH : ti 27 = some ⟨.struct [(0,25),(2,22)],3,[.c .nul,.c .nul,.c .nul],some (.V 3 [])⟩:=rfl
theorem uI : ti 30 = some ⟨.struct [(0,22),(1,23)],2,[.c .nul,.c .nul],some (.V 2 [])⟩:=rfl
theorem uJ : ti 31 = some ⟨.struct [(0,30),(2,22)],3,[.c .nul,.c .nul,.c .nul],some (.V 3 [])⟩:=rfl
theorem uK : ti 32 = some ⟨.struct [(0,30),(2,22)],3,[.c .nul,.c .nul,.c .nul],some (.V 3 [])⟩:=rfl
theorem uL : ti 42 = some ⟨.slice 5,1,[.c .nul],some (.V 1 [])⟩:=rfl
theorem uM : ti 44 = some ⟨.other,1,[.k (Value.pointer none)],none⟩:=rfl
theorem uN : ti 46 = some ⟨.int .u64,1,[.c (.int .u64 0)],none⟩:=rfl
theorem uO : ti 54 = some ⟨.struct [(0,22),(1,22)],2,[.c .nul,.c .nul],some (.V 2 [])⟩:=rfl
theorem uP : ti 55 = some ⟨.struct [(0,22),(1,22)],2,[.c .nul,.c .nul],some (.V 2 [])⟩:=rfl
theorem uQ : ti 69 = some ⟨.slice 4,1,[.c .nul],some (.V 1 [])⟩:=rfl
theorem uR : ti 71 = some ⟨.struct [(0,22),(1,22),(2,23),(3,23),(4,22)],5,[.c .nul,.c .nul,.c .nul,.c .nul,.c .nul],some (.V 5 [])⟩:=rfl
theorem uS : ti 72 = some ⟨.struct [(0,22),(1,22),(2,23),(3,23),(4,22)],5,[.c .nul,.c .nul,.c .nul,.c .nul,.c .nul],some (.V 5 [])⟩:=rfl
theorem uT : ti 76 = some ⟨.other,1,[.k (Value.pointer none)],none⟩:=rfl
theorem uU : ti 81 = some ⟨.struct [(0,42),(1,3),(2,46)],3,[.c .nul,.c (.int .i64 0),.c (.int .u64 0)],some (.V 3 [])⟩:=rfl
theorem uV : ti 82 = some ⟨.struct [(0,42),(1,3),(2,46)],3,[.c .nul,.c (.int .i64 0),.c (.int .u64 0)],some (.V 3 [])⟩:=rfl
theorem uW : ti 84 = some ⟨.int .u64,1,[.c (.int .u64 0)],none⟩:=rfl
theorem uX : ti 98 = some ⟨.other,1,[.k (Value.map none)],none⟩:=rfl
theorem uY : ti 99 = some ⟨.struct [(0,32),(3,98)],4,[.c .nul,.c .nul,.c .nul,.k (Value.map none)],some (.V 4 [])⟩:=rfl
theorem sI : ti 100 = some ⟨.struct [(0,32),(3,98)],4,[.c .nul,.c .nul,.c .nul,.k (Value.map none)],some (.V 4 [])⟩:=rfl
theorem sJ : ti 101 = some ⟨.struct [(0,2),(1,2),(2,2),(3,2),(4,2)],5,[.c (.int .i64 0),.c (.int .i64 0),.c (.int .i64 0),.c (.int .i64 0),.c (.int .i64 0)],some (.V 5 [])⟩:=rfl
theorem sK : ti 102 = some ⟨.struct [(0,2),(1,2),(2,2),(3,2),(4,2)],5,[.c (.int .i64 0),.c (.int .i64 0),.c (.int .i64 0),.c (.int .i64 0),.c (.int .i64 0)],some (.V 5 [])⟩:=rfl
theorem sL : ti 115 = some ⟨.other,1,[.k (Value.map none)],none⟩:=rfl
theorem sM : ti 132 = some ⟨.int .i64,1,[.c (.int .i64 0)],some (.I [])⟩:=rfl
theorem sN : ti 139 = some ⟨.int .u32,1,[.c (.int .u32 0)],none⟩:=rfl
theorem sO : ti 141 = some ⟨.int .u64,1,[.c (.int .u64 0)],none⟩:=rfl
theorem sP : ti 145 = some ⟨.other,1,[.k (Value.pointer none)],none⟩:=rfl
theorem sQ : ti 147 = some ⟨.other,1,[.k (Value.pointer none)],none⟩:=rfl
theorem sR : ti 157 = some ⟨.int .u8,1,[.c (.int .u8 0)],some (.Y [])⟩:=rfl
theorem sS : ti 158 = some ⟨.int .u8,1,[.c (.int .u8 0)],some (.Y [])⟩:=rfl
theorem sT : ti 160 = some ⟨.other,1,[.k (Value.pointer none)],none⟩:=rfl
theorem sU : ti 161 = some ⟨.int .i32,1,[.c (.int .i32 0)],none⟩:=rfl
theorem sV : ti 162 = some ⟨.int .i32,1,[.c (.int .i32 0)],none⟩:=rfl
theorem uZ : ∃ i z d,TOk Try.prog 2 ⟨.int .i64,1,[.c (.int .i64 0)],some (.I [])⟩ i z d:=aP (Value.int .i64 0) 8 (by kernel_rfl) (by decide) rfl rfl rfl (by kernel_rfl) (fun c h=>by injection h with h;subst h;exact ⟨rfl,_,rfl,rfl,rfl⟩)
theorem u1 : ∃ i z d,TOk Try.prog 3 ⟨.int .i64,1,[.c (.int .i64 0)],some (.I [])⟩ i z d:=aP (Value.int .i64 0) 8 (by kernel_rfl) (by decide) rfl rfl rfl (by kernel_rfl) (fun c h=>by injection h with h;subst h;exact ⟨rfl,_,rfl,rfl,rfl⟩)
theorem u2 : ∃ i z d,TOk Try.prog 4 ⟨.bool,1,[.c (.bool false)],some (.B [])⟩ i z d:=aP (Value.bool false) 1 (by kernel_rfl) (by decide) rfl rfl rfl (by kernel_rfl) (fun c h=>by injection h with h;subst h;exact ⟨rfl,_,rfl,rfl,rfl⟩)
theorem u3 : ∃ i z d,TOk Try.prog 5 ⟨.int .u8,1,[.c (.int .u8 0)],some (.Y [])⟩ i z d:=aP (Value.int .u8 0) 1 (by kernel_rfl) (by decide) rfl rfl rfl (by kernel_rfl) (fun c h=>by injection h with h;subst h;exact ⟨rfl,_,rfl,rfl,rfl⟩)
theorem u4 : ∃ i z d,TOk Try.prog 6 ⟨.int .u8,1,[.c (.int .u8 0)],some (.Y [])⟩ i z d:=aP (Value.int .u8 0) 1 (by kernel_rfl) (by decide) rfl rfl rfl (by kernel_rfl) (fun c h=>by injection h with h;subst h;exact ⟨rfl,_,rfl,rfl,rfl⟩)
theorem u5 : ∃ i z d,TOk Try.prog 7 ⟨.struct [(0,2),(1,3),(2,4),(3,6)],4,[.c (.int .i64 0),.c (.int .i64 0),.c (.bool false),.c (.int .u8 0)],some (.V 4 [])⟩ i z d:=aP (.agg #[Value.int .i64 0,Value.int .i64 0,Value.bool false,Value.int .u8 0]) 24 (by kernel_rfl) (by decide) rfl rfl rfl (by kernel_rfl) (fun c h=>by injection h with h;subst h;exact ⟨rfl,_,rfl,rfl,rfl⟩)
theorem u6 : ∃ i z d,TOk Try.prog 8 ⟨.struct [(0,2),(1,3),(2,4),(3,6)],4,[.c (.int .i64 0),.c (.int .i64 0),.c (.bool false),.c (.int .u8 0)],some (.V 4 [])⟩ i z d:=aP (.agg #[Value.int .i64 0,Value.int .i64 0,Value.bool false,Value.int .u8 0]) 24 (by kernel_rfl) (by decide) rfl rfl rfl (by kernel_rfl) (fun c h=>by injection h with h;subst h;exact ⟨rfl,_,rfl,rfl,rfl⟩)
theorem sW : ∃ i z d,TOk Try.prog 12 ⟨.int .u64,1,[.c (.int .u64 0)],none⟩ i z d:=aP (Value.int .u64 0) 8 (by kernel_rfl) (by decide) rfl rfl rfl (by kernel_rfl) (fun c h=>by cases h)
theorem sX : ∃ i z d,TOk Try.prog 15 ⟨.other,1,[.k (Value.pointer none)],none⟩ i z d:=aP (Value.pointer none) 8 (by kernel_rfl) (by decide) rfl rfl rfl (by kernel_rfl) (fun c h=>by cases h)
theorem sY : ∃ i z d,TOk Try.prog 16 ⟨.other,1,[.k (Value.pointer none)],none⟩ i z d:=aP (Value.pointer none) 8 (by kernel_rfl) (by decide) rfl rfl rfl (by kernel_rfl) (fun c h=>by cases h)
theorem sZ : ∃ i z d,TOk Try.prog 17 ⟨.other,1,[.k (Value.pointer none)],none⟩ i z d:=aP (Value.pointer none) 8 (by kernel_rfl) (by decide) rfl rfl rfl (by kernel_rfl) (fun c h=>by cases h)
theorem s8 : ∃ i z d,TOk Try.prog 18 ⟨.struct [(0,17)],1,[.k (Value.pointer none)],some (.V 1 [])⟩ i z d:=aP (.agg #[Value.pointer none]) 8 (by kernel_rfl) (by decide) rfl rfl rfl (by kernel_rfl) (fun c h=>by injection h with h;subst h;exact ⟨rfl,_,rfl,rfl,rfl⟩)
theorem s9 : ∃ i z d,TOk Try.prog 19 ⟨.struct [(0,17)],1,[.k (Value.pointer none)],some (.V 1 [])⟩ i z d:=aP (.agg #[Value.pointer none]) 8 (by kernel_rfl) (by decide) rfl rfl rfl (by kernel_rfl) (fun c h=>by injection h with h;subst h;exact ⟨rfl,_,rfl,rfl,rfl⟩)
theorem ta : ∃ i z d,TOk Try.prog 21 ⟨.int .i32,1,[.c (.int .i32 0)],none⟩ i z d:=aP (Value.int .i32 0) 4 (by kernel_rfl) (by decide) rfl rfl rfl (by kernel_rfl) (fun c h=>by cases h)
theorem tb : ∃ i z d,TOk Try.prog 22 ⟨.slice 2,1,[.c .nul],some (.R [])⟩ i z d:=aP (Value.slice none 0 0) 24 (by kernel_rfl) (by decide) rfl rfl rfl (by kernel_rfl) (fun c h=>by injection h with h;subst h;exact ⟨rfl,_,rfl,rfl,rfl⟩)
theorem tc : ∃ i z d,TOk Try.prog 23 ⟨.slice 22,1,[.c .nul],some (.V 1 [])⟩ i z d:=aP (Value.slice none 0 0) 24 (by kernel_rfl) (by decide) rfl rfl rfl (by kernel_rfl) (fun c h=>by injection h with h;subst h;exact ⟨rfl,_,rfl,rfl,rfl⟩)
theorem td : ∃ i z d,TOk Try.prog 24 ⟨.struct [(0,22),(1,23)],2,[.c .nul,.c .nul],some (.V 2 [])⟩ i z d:=aP (.agg #[Value.slice none 0 0,Value.slice none 0 0]) 48 (by kernel_rfl) (by decide) rfl rfl rfl (by kernel_rfl) (fun c h=>by injection h with h;subst h;exact ⟨rfl,_,rfl,rfl,rfl⟩)
theorem tg : ∃ i z d,TOk Try.prog 25 ⟨.struct [(0,22),(1,23)],2,[.c .nul,.c .nul],some (.V 2 [])⟩ i z d:=aP (.agg #[Value.slice none 0 0,Value.slice none 0 0]) 48 (by kernel_rfl) (by decide) rfl rfl rfl (by kernel_rfl) (fun c h=>by injection h with h;subst h;exact ⟨rfl,_,rfl,rfl,rfl⟩)
theorem th : ∃ i z d,TOk Try.prog 26 ⟨.struct [(0,25),(2,22)],3,[.c .nul,.c .nul,.c .nul],some (.V 3 [])⟩ i z d:=aP (.agg #[Value.slice none 0 0,Value.slice none 0 0,Value.slice none 0 0]) 72 (by kernel_rfl) (by decide) rfl rfl rfl (by kernel_rfl) (fun c h=>by injection h with h;subst h;exact ⟨rfl,_,rfl,rfl,rfl⟩)
theorem tj : ∃ i z d,TOk Try.prog 27 ⟨.struct [(0,25),(2,22)],3,[.c .nul,.c .nul,.c .nul],some (.V 3 [])⟩ i z d:=aP (.agg #[Value.slice none 0 0,Value.slice none 0 0,Value.slice none 0 0]) 72 (by kernel_rfl) (by decide) rfl rfl rfl (by kernel_rfl) (fun c h=>by injection h with h;subst h;exact ⟨rfl,_,rfl,rfl,rfl⟩)
theorem tk : ∃ i z d,TOk Try.prog 30 ⟨.struct [(0,22),(1,23)],2,[.c .nul,.c .nul],some (.V 2 [])⟩ i z d:=aP (.agg #[Value.slice none 0 0,Value.slice none 0 0]) 48 (by kernel_rfl) (by decide) rfl rfl rfl (by kernel_rfl) (fun c h=>by injection h with h;subst h;exact ⟨rfl,_,rfl,rfl,rfl⟩)
theorem tl : ∃ i z d,TOk Try.prog 31 ⟨.struct [(0,30),(2,22)],3,[.c .nul,.c .nul,.c .nul],some (.V 3 [])⟩ i z d:=aP (.agg #[Value.slice none 0 0,Value.slice none 0 0,Value.slice none 0 0]) 72 (by kernel_rfl) (by decide) rfl rfl rfl (by kernel_rfl) (fun c h=>by injection h with h;subst h;exact ⟨rfl,_,rfl,rfl,rfl⟩)
theorem tn : ∃ i z d,TOk Try.prog 32 ⟨.struct [(0,30),(2,22)],3,[.c .nul,.c .nul,.c .nul],some (.V 3 [])⟩ i z d:=aP (.agg #[Value.slice none 0 0,Value.slice none 0 0,Value.slice none 0 0]) 72 (by kernel_rfl) (by decide) rfl rfl rfl (by kernel_rfl) (fun c h=>by injection h with h;subst h;exact ⟨rfl,_,rfl,rfl,rfl⟩)
theorem tp : ∃ i z d,TOk Try.prog 42 ⟨.slice 5,1,[.c .nul],some (.V 1 [])⟩ i z d:=aP (Value.slice none 0 0) 24 (by kernel_rfl) (by decide) rfl rfl rfl (by kernel_rfl) (fun c h=>by injection h with h;subst h;exact ⟨rfl,_,rfl,rfl,rfl⟩)
theorem tq : ∃ i z d,TOk Try.prog 44 ⟨.other,1,[.k (Value.pointer none)],none⟩ i z d:=aP (Value.pointer none) 8 (by kernel_rfl) (by decide) rfl rfl rfl (by kernel_rfl) (fun c h=>by cases h)
theorem tr : ∃ i z d,TOk Try.prog 46 ⟨.int .u64,1,[.c (.int .u64 0)],none⟩ i z d:=aP (Value.int .u64 0) 8 (by kernel_rfl) (by decide) rfl rfl rfl (by kernel_rfl) (fun c h=>by cases h)
theorem tt : ∃ i z d,TOk Try.prog 54 ⟨.struct [(0,22),(1,22)],2,[.c .nul,.c .nul],some (.V 2 [])⟩ i z d:=aP (.agg #[Value.slice none 0 0,Value.slice none 0 0]) 48 (by kernel_rfl) (by decide) rfl rfl rfl (by kernel_rfl) (fun c h=>by injection h with h;subst h;exact ⟨rfl,_,rfl,rfl,rfl⟩)
theorem tu : ∃ i z d,TOk Try.prog 55 ⟨.struct [(0,22),(1,22)],2,[.c .nul,.c .nul],some (.V 2 [])⟩ i z d:=aP (.agg #[Value.slice none 0 0,Value.slice none 0 0]) 48 (by kernel_rfl) (by decide) rfl rfl rfl (by kernel_rfl) (fun c h=>by injection h with h;subst h;exact ⟨rfl,_,rfl,rfl,rfl⟩)
theorem tv : ∃ i z d,TOk Try.prog 69 ⟨.slice 4,1,[.c .nul],some (.V 1 [])⟩ i z d:=aP (Value.slice none 0 0) 24 (by kernel_rfl) (by decide) rfl rfl rfl (by kernel_rfl) (fun c h=>by injection h with h;subst h;exact ⟨rfl,_,rfl,rfl,rfl⟩)
theorem tw : ∃ i z d,TOk Try.prog 71 ⟨.struct [(0,22),(1,22),(2,23),(3,23),(4,22)],5,[.c .nul,.c .nul,.c .nul,.c .nul,.c .nul],some (.V 5 [])⟩ i z d:=aP (.agg #[Value.slice none 0 0,Value.slice none 0 0,Value.slice none 0 0,Value.slice none 0 0,Value.slice none 0 0]) 120 (by kernel_rfl) (by decide) rfl rfl rfl (by kernel_rfl) (fun c h=>by injection h with h;subst h;exact ⟨rfl,_,rfl,rfl,rfl⟩)
theorem tx : ∃ i z d,TOk Try.prog 72 ⟨.struct [(0,22),(1,22),(2,23),(3,23),(4,22)],5,[.c .nul,.c .nul,.c .nul,.c .nul,.c .nul],some (.V 5 [])⟩ i z d:=aP (.agg #[Value.slice none 0 0,Value.slice none 0 0,Value.slice none 0 0,Value.slice none 0 0,Value.slice none 0 0]) 120 (by kernel_rfl) (by decide) rfl rfl rfl (by kernel_rfl) (fun c h=>by injection h with h;subst h;exact ⟨rfl,_,rfl,rfl,rfl⟩)
theorem tz : ∃ i z d,TOk Try.prog 76 ⟨.other,1,[.k (Value.pointer none)],none⟩ i z d:=aP (Value.pointer none) 8 (by kernel_rfl) (by decide) rfl rfl rfl (by kernel_rfl) (fun c h=>by cases h)
theorem tA : ∃ i z d,TOk Try.prog 81 ⟨.struct [(0,42),(1,3),(2,46)],3,[.c .nul,.c (.int .i64 0),.c (.int .u64 0)],some (.V 3 [])⟩ i z d:=aP (.agg #[Value.slice none 0 0,Value.int .i64 0,Value.int .u64 0]) 40 (by kernel_rfl) (by decide) rfl rfl rfl (by kernel_rfl) (fun c h=>by injection h with h;subst h;exact ⟨rfl,_,rfl,rfl,rfl⟩)
theorem tB : ∃ i z d,TOk Try.prog 82 ⟨.struct [(0,42),(1,3),(2,46)],3,[.c .nul,.c (.int .i64 0),.c (.int .u64 0)],some (.V 3 [])⟩ i z d:=aP (.agg #[Value.slice none 0 0,Value.int .i64 0,Value.int .u64 0]) 40 (by kernel_rfl) (by decide) rfl rfl rfl (by kernel_rfl) (fun c h=>by injection h with h;subst h;exact ⟨rfl,_,rfl,rfl,rfl⟩)
theorem tC : ∃ i z d,TOk Try.prog 84 ⟨.int .u64,1,[.c (.int .u64 0)],none⟩ i z d:=aP (Value.int .u64 0) 8 (by kernel_rfl) (by decide) rfl rfl rfl (by kernel_rfl) (fun c h=>by cases h)
theorem tD : ∃ i z d,TOk Try.prog 98 ⟨.other,1,[.k (Value.map none)],none⟩ i z d:=aP (Value.map none) 8 (by kernel_rfl) (by decide) rfl rfl rfl (by kernel_rfl) (fun c h=>by cases h)
theorem tE : ∃ i z d,TOk Try.prog 99 ⟨.struct [(0,32),(3,98)],4,[.c .nul,.c .nul,.c .nul,.k (Value.map none)],some (.V 4 [])⟩ i z d:=aP (.agg #[Value.slice none 0 0,Value.slice none 0 0,Value.slice none 0 0,Value.map none]) 80 (by kernel_rfl) (by decide) rfl rfl rfl (by kernel_rfl) (fun c h=>by injection h with h;subst h;exact ⟨rfl,_,rfl,rfl,rfl⟩)
theorem rA : ∃ i z d,TOk Try.prog 100 ⟨.struct [(0,32),(3,98)],4,[.c .nul,.c .nul,.c .nul,.k (Value.map none)],some (.V 4 [])⟩ i z d:=aP (.agg #[Value.slice none 0 0,Value.slice none 0 0,Value.slice none 0 0,Value.map none]) 80 (by kernel_rfl) (by decide) rfl rfl rfl (by kernel_rfl) (fun c h=>by injection h with h;subst h;exact ⟨rfl,_,rfl,rfl,rfl⟩)
theorem rB : ∃ i z d,TOk Try.prog 101 ⟨.struct [(0,2),(1,2),(2,2),(3,2),(4,2)],5,[.c (.int .i64 0),.c (.int .i64 0),.c (.int .i64 0),.c (.int .i64 0),.c (.int .i64 0)],some (.V 5 [])⟩ i z d:=aP (.agg #[Value.int .i64 0,Value.int .i64 0,Value.int .i64 0,Value.int .i64 0,Value.int .i64 0]) 40 (by kernel_rfl) (by decide) rfl rfl rfl (by kernel_rfl) (fun c h=>by injection h with h;subst h;exact ⟨rfl,_,rfl,rfl,rfl⟩)
theorem rC : ∃ i z d,TOk Try.prog 102 ⟨.struct [(0,2),(1,2),(2,2),(3,2),(4,2)],5,[.c (.int .i64 0),.c (.int .i64 0),.c (.int .i64 0),.c (.int .i64 0),.c (.int .i64 0)],some (.V 5 [])⟩ i z d:=aP (.agg #[Value.int .i64 0,Value.int .i64 0,Value.int .i64 0,Value.int .i64 0,Value.int .i64 0]) 40 (by kernel_rfl) (by decide) rfl rfl rfl (by kernel_rfl) (fun c h=>by injection h with h;subst h;exact ⟨rfl,_,rfl,rfl,rfl⟩)
theorem rD : ∃ i z d,TOk Try.prog 115 ⟨.other,1,[.k (Value.map none)],none⟩ i z d:=aP (Value.map none) 8 (by kernel_rfl) (by decide) rfl rfl rfl (by kernel_rfl) (fun c h=>by cases h)
theorem rE : ∃ i z d,TOk Try.prog 132 ⟨.int .i64,1,[.c (.int .i64 0)],some (.I [])⟩ i z d:=aP (Value.int .i64 0) 8 (by kernel_rfl) (by decide) rfl rfl rfl (by kernel_rfl) (fun c h=>by injection h with h;subst h;exact ⟨rfl,_,rfl,rfl,rfl⟩)
theorem rF : ∃ i z d,TOk Try.prog 139 ⟨.int .u32,1,[.c (.int .u32 0)],none⟩ i z d:=aP (Value.int .u32 0) 4 (by kernel_rfl) (by decide) rfl rfl rfl (by kernel_rfl) (fun c h=>by cases h)
theorem rG : ∃ i z d,TOk Try.prog 141 ⟨.int .u64,1,[.c (.int .u64 0)],none⟩ i z d:=aP (Value.int .u64 0) 8 (by kernel_rfl) (by decide) rfl rfl rfl (by kernel_rfl) (fun c h=>by cases h)
theorem rH : ∃ i z d,TOk Try.prog 145 ⟨.other,1,[.k (Value.pointer none)],none⟩ i z d:=aP (Value.pointer none) 8 (by kernel_rfl) (by decide) rfl rfl rfl (by kernel_rfl) (fun c h=>by cases h)
theorem rI : ∃ i z d,TOk Try.prog 147 ⟨.other,1,[.k (Value.pointer none)],none⟩ i z d:=aP (Value.pointer none) 8 (by kernel_rfl) (by decide) rfl rfl rfl (by kernel_rfl) (fun c h=>by cases h)
theorem rJ : ∃ i z d,TOk Try.prog 157 ⟨.int .u8,1,[.c (.int .u8 0)],some (.Y [])⟩ i z d:=aP (Value.int .u8 0) 1 (by kernel_rfl) (by decide) rfl rfl rfl (by kernel_rfl) (fun c h=>by injection h with h;subst h;exact ⟨rfl,_,rfl,rfl,rfl⟩)
theorem rK : ∃ i z d,TOk Try.prog 158 ⟨.int .u8,1,[.c (.int .u8 0)],some (.Y [])⟩ i z d:=aP (Value.int .u8 0) 1 (by kernel_rfl) (by decide) rfl rfl rfl (by kernel_rfl) (fun c h=>by injection h with h;subst h;exact ⟨rfl,_,rfl,rfl,rfl⟩)
theorem rL : ∃ i z d,TOk Try.prog 160 ⟨.other,1,[.k (Value.pointer none)],none⟩ i z d:=aP (Value.pointer none) 8 (by kernel_rfl) (by decide) rfl rfl rfl (by kernel_rfl) (fun c h=>by cases h)
theorem rM : ∃ i z d,TOk Try.prog 161 ⟨.int .i32,1,[.c (.int .i32 0)],none⟩ i z d:=aP (Value.int .i32 0) 4 (by kernel_rfl) (by decide) rfl rfl rfl (by kernel_rfl) (fun c h=>by cases h)
theorem rN : ∃ i z d,TOk Try.prog 162 ⟨.int .i32,1,[.c (.int .i32 0)],none⟩ i z d:=aP (Value.int .i32 0) 4 (by kernel_rfl) (by decide) rfl rfl rfl (by kernel_rfl) (fun c h=>by cases h)
theorem ly {l : List (Nat × TInfo)} {T : Nat} {t : TInfo} (h : l.lookup T = some t) : (T,t) ∈ l:=by
 induction l with
 | nil => cases h
 | cons p l ih =>
   obtain ⟨a,b⟩:=p
   rw [List.lookup_cons] at h
   split at h
   · rename_i hb
     injection h with h
     subst h
     have : T = a:=by simpa using hb
     subst this;exact List.mem_cons_self
   · exact List.mem_cons_of_mem _ (ih h)
theorem tF : ∀ p,p ∈ tiL → ∃ i z d,TOk Try.prog p.1 p.2 i z d:=List.forall_mem_cons.2 ⟨uZ,List.forall_mem_cons.2 ⟨u1,List.forall_mem_cons.2 ⟨u2,List.forall_mem_cons.2 ⟨u3,List.forall_mem_cons.2 ⟨u4,List.forall_mem_cons.2 ⟨u5,List.forall_mem_cons.2 ⟨u6,List.forall_mem_cons.2 ⟨sW,List.forall_mem_cons.2 ⟨sX,List.forall_mem_cons.2 ⟨sY,List.forall_mem_cons.2 ⟨sZ,List.forall_mem_cons.2 ⟨s8,List.forall_mem_cons.2 ⟨s9,List.forall_mem_cons.2 ⟨ta,List.forall_mem_cons.2 ⟨tb,List.forall_mem_cons.2 ⟨tc,List.forall_mem_cons.2 ⟨td,List.forall_mem_cons.2 ⟨tg,List.forall_mem_cons.2 ⟨th,List.forall_mem_cons.2 ⟨tj,List.forall_mem_cons.2 ⟨tk,List.forall_mem_cons.2 ⟨tl,List.forall_mem_cons.2 ⟨tn,List.forall_mem_cons.2 ⟨tp,List.forall_mem_cons.2 ⟨tq,List.forall_mem_cons.2 ⟨tr,List.forall_mem_cons.2 ⟨tt,List.forall_mem_cons.2 ⟨tu,List.forall_mem_cons.2 ⟨tv,List.forall_mem_cons.2 ⟨tw,List.forall_mem_cons.2 ⟨tx,List.forall_mem_cons.2 ⟨tz,List.forall_mem_cons.2 ⟨tA,List.forall_mem_cons.2 ⟨tB,List.forall_mem_cons.2 ⟨tC,List.forall_mem_cons.2 ⟨tD,List.forall_mem_cons.2 ⟨tE,List.forall_mem_cons.2 ⟨rA,List.forall_mem_cons.2 ⟨rB,List.forall_mem_cons.2 ⟨rC,List.forall_mem_cons.2 ⟨rD,List.forall_mem_cons.2 ⟨rE,List.forall_mem_cons.2 ⟨rF,List.forall_mem_cons.2 ⟨rG,List.forall_mem_cons.2 ⟨rH,List.forall_mem_cons.2 ⟨rI,List.forall_mem_cons.2 ⟨rJ,List.forall_mem_cons.2 ⟨rK,List.forall_mem_cons.2 ⟨rL,List.forall_mem_cons.2 ⟨rM,List.forall_mem_cons.2 ⟨rN,List.forall_mem_nil _⟩⟩⟩⟩⟩⟩⟩⟩⟩⟩⟩⟩⟩⟩⟩⟩⟩⟩⟩⟩⟩⟩⟩⟩⟩⟩⟩⟩⟩⟩⟩⟩⟩⟩⟩⟩⟩⟩⟩⟩⟩⟩⟩⟩⟩⟩⟩⟩⟩⟩⟩
theorem ba : cB Try.prog ti:=fun T t h=>tF (T,t) (ly h)
end Go.Proofs.Ythjamlponejffaa
namespace Go.Proofs.Ythjamlponejffaa
set_option linter.unusedVariables false
set_option linter.unusedSimpArgs false
open Go.RowKit
structure Nm (hp0 : Hp) (ν : Nat → Nat) : Prop where
 inj : ∀ i j,ν i = ν j → i = j
 out : ∀ i,hp0 (ν i) = none
noncomputable def hpL (hp0 : Hp) (ν : Nat → Nat) (L : List Ent) : Hp:=fun x=>@dite _ (∃ i,x = ν i) (Classical.propDecidable _) (fun h=>L[Classical.choose h]?) (fun _=>hp0 x)
section
variable {hp0 : Hp} {ν : Nat → Nat} {L : List Ent}
theorem am (hN : Nm hp0 ν) (i : Nat) : hpL hp0 ν L (ν i) = L[i]?:=by
 have h : ∃ j,ν i = ν j:=⟨i,rfl⟩
 unfold hpL
 rw [dif_pos h,hN.inj _ _ (Classical.choose_spec h).symm]
theorem dl {x : Nat} (h : ∀ i,x ≠ ν i) : hpL hp0 ν L x = hp0 x:=by
 unfold hpL
 rw [dif_neg fun ⟨i,e⟩=>h i e]
theorem pL (hN : Nm hp0 ν) : hpL hp0 ν [] = hp0:=by
 funext x
 by_cases h : ∃ i,x = ν i
 · obtain ⟨i,rfl⟩:=h
   rw [am hN,hN.out];rfl
 · exact dl fun i e=>h ⟨i,e⟩
theorem ao (hN : Nm hp0 ν) {i : Nat} (hi : i < L.length) (e : Ent) : upd (hpL hp0 ν L) (ν i) (some e) = hpL hp0 ν (L.set i e):=by
 funext x
 by_cases h : ∃ j,x = ν j
 · obtain ⟨j,rfl⟩:=h
   rw [am hN,List.getElem?_set]
   by_cases hij : i = j
   · subst hij;rw [aF,if_pos rfl,if_pos hi]
   · rw [if_neg hij,bN fun e=>hij (hN.inj _ _ e).symm,am hN]
 · have h' : ∀ j,x ≠ ν j:=fun j e=>h ⟨j,e⟩
   rw [dl h',bN (h' i),dl h']
theorem pM (hN : Nm hp0 ν) (e : Ent) : upd (hpL hp0 ν L) (ν L.length) (some e) = hpL hp0 ν (L ++ [e]):=by
 funext x
 by_cases h : ∃ j,x = ν j
 · obtain ⟨j,rfl⟩:=h
   rw [am hN]
   by_cases hij : j = L.length
   · subst hij;rw [aF];simp
   · rw [bN fun e=>hij (hN.inj _ _ e),am hN]
     rcases Nat.lt_or_ge j L.length with h|h
     · rw [List.getElem?_append_left h]
     · rw [List.getElem?_eq_none h,List.getElem?_eq_none (by simp;omega)]
 · have h' : ∀ j,x ≠ ν j:=fun j e=>h ⟨j,e⟩
   rw [dl h',bN (h' _),dl h']
theorem pN (hN : Nm hp0 ν) : hpL hp0 ν L (ν L.length) = none:=by
 rw [am hN];simp
def nmL (ν : Nat → Nat) (n : Nat) : List Ent → List Nat
 | [] => []
 | _ :: es => ν n :: nmL ν (n + 1) es
def FN (hp0 : Hp) (ν : Nat → Nat) : List Ent → Hp → (Hp → List Nat → Prop) → Prop
 | [], hp, k => k hp []
 | e :: es, hp, k => ∃ L, hp = hpL hp0 ν L ∧ k (hpL hp0 ν (L ++ e :: es)) (nmL ν L.length (e :: es))
theorem rO (hN : Nm hp0 ν) : ∀ (es L : List Ent) (acc : List Nat) (k : Hp → List Nat → Prop),k (hpL hp0 ν (L ++ es)) (acc ++ nmL ν L.length es) → FA es (hpL hp0 ν L) acc k:=by
 intro es
 induction es with
 | nil => intro L acc k h; simpa [FA, nmL] using h
 | cons e es ih =>
   intro L acc k h
   refine ⟨ν L.length,pN hN,?_⟩
   rw [pM hN]
   refine ih _ _ _ ?_
   simpa [nmL] using h
theorem l7 (hN : Nm hp0 ν) {es : List Ent} {hp : Hp} {k : Hp → List Nat → Prop} (h : FN hp0 ν es hp k) : FA es hp [] k:=by
 cases es with
 | nil => exact h
 | cons e es =>
   obtain ⟨L,rfl,h⟩:=h
   exact rO hN _ _ _ _ h
end
theorem tG {hp0 : Hp} (h : gz hp0) : ∃ ν,Nm hp0 ν:=by
 obtain ⟨b,hb⟩:=h
 exact ⟨fun i=>b + i,fun i j e=>Nat.add_left_cancel e,fun i=>hb _ (by omega)⟩
def tmL (l : List (Nat × AV)) : Nat → AV:=fun t=>match l.lookup t with
 | some a => a
 | none => .any
theorem l8 (t : Nat) : tmL [] t = .any:=rfl
theorem fO (t : Nat) (a : AV) (l : List (Nat × AV)) : tmL ((t,a) :: l) t = a:=by
 unfold tmL;rw [List.lookup_cons,beq_self_eq_true]
theorem jE {s t : Nat} (h : s ≠ t) (a : AV) (l : List (Nat × AV)) : tmL ((t,a) :: l) s = tmL l s:=by
 unfold tmL;rw [List.lookup_cons,beq_eq_false_iff_ne.2 h]
theorem aG (s t : Nat) (a : AV) (l : List (Nat × AV)) : tmL ((s,a) :: l) t = if t = s then a else tmL l t:=by
 by_cases h : t = s
 · subst h;rw [fO,if_pos rfl]
 · rw [jE h,if_neg h]
theorem cW (l : List (Nat × AV)) (t : Nat) (a : AV) : upd (tmL l) t a = tmL ((t,a) :: l):=by
 funext s
 by_cases h : s = t
 · subst h;rw [aF,fO]
 · rw [bN h,jE h]
def cy (n : Nat) : List AV → List (Nat × AV)
 | [] => []
 | a :: l => (n, a) :: cy (n + 1) l
theorem oq : ∀ (args : List AV) (n : Nat),tmL (cy n args) = fun t=>if n ≤ t then args.getD (t - n) .any else .any:=by
 intro args
 induction args with
 | nil => intro n; funext t; rw [cy, l8]; simp
 | cons a l ih =>
   intro n;funext t
   rw [cy]
   by_cases h : t = n
   · subst h;rw [fO];simp
   · rw [jE h,ih]
     by_cases h2 : n + 1 ≤ t
     · obtain ⟨d,rfl⟩ : ∃ d,t = n + 1 + d:=⟨t - (n + 1),by omega⟩
       show (if _ then _ else _) = _
       rw [if_pos h2,if_pos (by omega)]
       have e1 : n + 1 + d - (n + 1) = d:=by omega
       have e2 : n + 1 + d - n = d + 1:=by omega
       rw [e1,e2,List.getD_cons_succ]
     · show (if _ then _ else _) = _
       rw [if_neg h2,if_neg (by omega)]
theorem ot (args : List AV) : oc args = tmL (cy 0 args):=by
 rw [oq];funext t;simp [oc]
structure Bs (hB hp0 : Hp) (ν : Nat → Nat) (k : Nat) : Prop where
 ext : ∀ x e,hp0 x = some e → e.kind = 3
 out : ∀ x,(∀ i,x ≠ ν i) → hB x = hp0 x
 inn : ∀ i,k ≤ i → hB (ν i) = none
 own : ∀ i e,hB (ν i) = some e → e.kind < 2
theorem Bs.base {hp0 : Hp} {ν : Nat → Nat} (hX : Ext hp0) (hN : Nm hp0 ν) : Bs hp0 hp0 ν 0:=⟨hX,fun _ _=>rfl,fun i _=>hN.out i,fun i e h=>by rw [hN.out] at h;cases h⟩
section
variable {P : Program} {ti : TI} {N : Nat} {hp0 : Hp} {ν : Nat → Nat} {ops : Array Oper}
def aws (P : Program) (ti : TI) (hp0 : Hp) (ν : Nat → Nat) (ops : Array Oper) : List Oper → ((Nat → AV) → Hp → Prop) → (Nat → AV) → Hp → Prop
 | [], K, tm, hp => K tm hp
 | o :: l, K, tm, hp =>
   match o.guard with
   | none => dQ P ti o.op (evT tm) hp fun E => FN hp0 ν E.nw (aM hp E.up) fun hp' ns => aws P ti hp0 ν ops l K (bZ tm o.dst (E.val ns)) hp'
   | some (j, want) => match (ops[j]?).bind (·.dst) with
     | none => False
     | some d => match tm d with
       | .c (.bool t) => (t = want → dQ P ti o.op (evT tm) hp fun E => FN hp0 ν E.nw (aM hp E.up) fun hp' ns => aws P ti hp0 ν ops l K (bZ tm o.dst (E.val ns)) hp') ∧
          (t ≠ want → aws P ti hp0 ν ops l K (bZ tm o.dst (.k undef)) hp)
       | .k v => v = undef ∧ aws P ti hp0 ν ops l K (bZ tm o.dst (.k undef)) hp
       | _ => False
theorem gJ {es : List Ent} {hp : Hp} {k k' : Hp → List Nat → Prop} (h : FN hp0 ν es hp k) (hk : ∀ hp ns,k hp ns → k' hp ns) : FN hp0 ν es hp k':=by
 cases es with
 | nil => exact hk _ _ h
 | cons e es => obtain ⟨L, h1, h2⟩ := h; exact ⟨L, h1, hk _ _ h2⟩
theorem fe {o : Op} {ev : Operand → AV} {hp : Hp} {k k' : Eff → Prop} (h : dQ P ti o ev hp k) (hk : ∀ E,k E → k' E) : dQ P ti o ev hp k':=by
 unfold dQ at h ⊢
 split at h
 · obtain ⟨E,h1,h2⟩:=h;exact ⟨E,h1,hk _ h2⟩
 · split at h
   · exact ⟨h.1,hk _ h.2⟩
   · exact h
theorem rP (hN : Nm hp0 ν) {K : (Nat → AV) → Hp → Prop} : ∀ (l : List Oper) (acc : List Foot) (tm : Nat → AV) (hp : Hp),aws P ti hp0 ν ops l K tm hp → dE P ti ops l (fun _ tm hp=>K tm hp) acc tm hp:=by
 intro l
 induction l with
 | nil => intro acc tm hp h; exact h
 | cons o l ih =>
   intro acc tm hp h
   simp only [aws] at h
   simp only [dE]
   split at h
   · rename_i hg;rw [hg]
     exact fe h fun E h=>l7 hN (gJ h fun hp ns h=>ih _ _ _ h)
   · rename_i j want hg;rw [hg]
     split at h
     · exact h.elim
     · rename_i d hd;simp only [hd]
       split at h
       · rename_i t ht;simp only [ht]
         exact ⟨fun e=>fe (h.1 e) fun E h=>l7 hN (gJ h fun hp ns h=>ih _ _ _ h),fun e=>ih _ _ _ (h.2 e)⟩
       · rename_i v ht;simp only [ht]
         exact ⟨h.1,ih _ _ _ h.2⟩
       · exact h.elim
theorem tH {K : (Nat → AV) → Hp → Prop} {tm : Nat → AV} {hp : Hp} (h : K tm hp) : aws P ti hp0 ν ops [] K tm hp:=h
theorem tI {o : Oper} {l : List Oper} {K : (Nat → AV) → Hp → Prop} {tm : Nat → AV} {hp : Hp} {j d : Nat} {want : Bool} (hg : o.guard = some (j,want)) (hd : (ops[j]?).bind (·.dst) = some d) (ht : tm d = .c (.bool want))
  (h : aws P ti hp0 ν ops ({ o with guard:=none } :: l) K tm hp) : aws P ti hp0 ν ops (o :: l) K tm hp:=by
 simp only [aws,hg,hd,ht,forall_const,ne_eq,not_true_eq_false,false_imp_iff,and_true] at h ⊢
 exact h
theorem rQ {o : Oper} {l : List Oper} {K : (Nat → AV) → Hp → Prop} {tm : Nat → AV} {hp : Hp} {j d : Nat} {want : Bool} (hg : o.guard = some (j,want)) (hd : (ops[j]?).bind (·.dst) = some d) (ht : tm d = .c (.bool (!want)))
  (h : aws P ti hp0 ν ops l K (bZ tm o.dst (.k undef)) hp) : aws P ti hp0 ν ops (o :: l) K tm hp:=by
 simp only [aws,hg,hd,ht]
 exact ⟨fun e=>absurd e (by cases want <;> simp),fun _=>h⟩
theorem fP {α : Type} (f : Nat → α) (t : Nat) (v : α) (h : f t = v) : upd f t v = f:=by
 funext s
 by_cases e : s = t
 · subst e;rw [aF,h]
 · rw [bN e]
theorem pO {o : Oper} {l : List Oper} {K : (Nat → AV) → Hp → Prop} {tm : Nat → AV} {hp : Hp} {j d : Nat} {want t : Bool} (hg : o.guard = some (j,want)) (hd : (ops[j]?).bind (·.dst) = some d) (ht : tm d = .c (.bool t))
  (h1 : t = true → aws P ti hp0 ν ops (o :: l) K (upd tm d (.c (.bool true))) hp) (h2 : t = false → aws P ti hp0 ν ops (o :: l) K (upd tm d (.c (.bool false))) hp) : aws P ti hp0 ν ops (o :: l) K tm hp:=by
 cases t with
 | true => rw [fP _ _ _ ht] at h1; exact h1 rfl
 | false => rw [fP _ _ _ ht] at h2; exact h2 rfl
def awd (P : Program) (ti : TI) (hp0 : Hp) (ν : Nat → Nat) (ops : Array Oper) : List Oper → (List Foot → (Nat → AV) → Hp → Prop) → List Foot → (Nat → AV) → Hp → Prop
 | [], K, acc, tm, hp => K acc tm hp
 | o :: l, K, acc, tm, hp =>
   match o.guard with
   | none => dQ P ti o.op (evT tm) hp fun E => FN hp0 ν E.nw (aM hp E.up) fun hp' ns => awd P ti hp0 ν ops l K (acc ++ [⟨rdN o.op (evT tm), E.up.map (·.1), ns⟩]) (bZ tm o.dst (E.val ns)) hp'
   | some (j, want) => match (ops[j]?).bind (·.dst) with
     | none => False
     | some d => match tm d with
       | .c (.bool t) => (t = want → dQ P ti o.op (evT tm) hp fun E => FN hp0 ν E.nw (aM hp E.up) fun hp' ns => awd P ti hp0 ν ops l K (acc ++ [⟨rdN o.op (evT tm), E.up.map (·.1), ns⟩]) (bZ tm o.dst (E.val ns)) hp') ∧
          (t ≠ want → awd P ti hp0 ν ops l K (acc ++ [⟨[],[],[]⟩]) (bZ tm o.dst (.k undef)) hp)
       | .k v => v = undef ∧ awd P ti hp0 ν ops l K (acc ++ [⟨[], [], []⟩]) (bZ tm o.dst (.k undef)) hp
       | _ => False
theorem rR (hN : Nm hp0 ν) {K : List Foot → (Nat → AV) → Hp → Prop} : ∀ (l : List Oper) (acc : List Foot) (tm : Nat → AV) (hp : Hp),awd P ti hp0 ν ops l K acc tm hp → dE P ti ops l K acc tm hp:=by
 intro l
 induction l with
 | nil => intro acc tm hp h; exact h
 | cons o l ih =>
   intro acc tm hp h
   simp only [awd] at h
   simp only [dE]
   split at h
   · rename_i hg;rw [hg]
     exact fe h fun E h=>l7 hN (gJ h fun hp ns h=>ih _ _ _ h)
   · rename_i j want hg;rw [hg]
     split at h
     · exact h.elim
     · rename_i d hd;simp only [hd]
       split at h
       · rename_i t ht;simp only [ht]
         exact ⟨fun e=>fe (h.1 e) fun E h=>l7 hN (gJ h fun hp ns h=>ih _ _ _ h),fun e=>ih _ _ _ (h.2 e)⟩
       · rename_i v ht;simp only [ht]
         exact ⟨h.1,ih _ _ _ h.2⟩
       · exact h.elim
theorem tJ {o : Oper} {l : List Oper} {K : List Foot → (Nat → AV) → Hp → Prop} {acc : List Foot} {tm : Nat → AV} {hp : Hp} {j d : Nat} {want : Bool} (hg : o.guard = some (j,want)) (hd : (ops[j]?).bind (·.dst) = some d) (ht : tm d = .c (.bool want))
  (h : awd P ti hp0 ν ops ({ o with guard:=none } :: l) K acc tm hp) : awd P ti hp0 ν ops (o :: l) K acc tm hp:=by
 simp only [awd,hg,hd,ht,forall_const,ne_eq,not_true_eq_false,false_imp_iff,and_true] at h ⊢
 exact h
theorem rS {o : Oper} {l : List Oper} {K : List Foot → (Nat → AV) → Hp → Prop} {acc : List Foot} {tm : Nat → AV} {hp : Hp} {j d : Nat} {want : Bool} (hg : o.guard = some (j,want)) (hd : (ops[j]?).bind (·.dst) = some d) (ht : tm d = .c (.bool (!want)))
  (h : awd P ti hp0 ν ops l K (acc ++ [⟨[],[],[]⟩]) (bZ tm o.dst (.k undef)) hp) : awd P ti hp0 ν ops (o :: l) K acc tm hp:=by
 simp only [awd,hg,hd,ht]
 exact ⟨fun e=>absurd e (by cases want <;> simp),fun _=>h⟩
theorem pP {o : Oper} {l : List Oper} {K : List Foot → (Nat → AV) → Hp → Prop} {acc : List Foot} {tm : Nat → AV} {hp : Hp} {j d : Nat} {want t : Bool} (hg : o.guard = some (j,want)) (hd : (ops[j]?).bind (·.dst) = some d) (ht : tm d = .c (.bool t))
  (h1 : t = true → awd P ti hp0 ν ops (o :: l) K acc (upd tm d (.c (.bool true))) hp) (h2 : t = false → awd P ti hp0 ν ops (o :: l) K acc (upd tm d (.c (.bool false))) hp) : awd P ti hp0 ν ops (o :: l) K acc tm hp:=by
 cases t with
 | true => rw [fP _ _ _ ht] at h1; exact h1 rfl
 | false => rw [fP _ _ _ ht] at h2; exact h2 rfl
inductive Fr where
 | sq (y : Code)
 | bk (id : Nat)
 | k (K : (Nat → AV) → Hp → Prop)
def Nx (P : Program) (N : Nat) (hB : Hp) : List Fr → fl → fl
 | [], Q => Q
 | .sq y :: S, Q => pC (Aw P N hB y (Nx P N hB S Q)) (Nx P N hB S Q)
 | .bk id :: S, Q => nZ id (Nx P N hB S Q)
 | .k K :: S, Q => pC K (Nx P N hB S Q)
variable {hB : Hp} {S : List Fr} {Q : fl} {tm : Nat → AV} {hp : Hp}
theorem u7 {y : Code} (h : Aw P N hB y (Nx P N hB S Q) tm hp) : Nx P N hB (.sq y :: S) Q .normal tm hp:=h
theorem u9 {id : Nat} (h : Nx P N hB S Q .normal tm hp) : Nx P N hB (.bk id :: S) Q .normal tm hp:=h
theorem n_k {K : (Nat → AV) → Hp → Prop} (h : K tm hp) : Nx P N hB (.k K :: S) Q .normal tm hp:=h
theorem tK {y : Code} {i : Nat} (h : Nx P N hB S Q (.exit i) tm hp) : Nx P N hB (.sq y :: S) Q (.exit i) tm hp:=h
theorem vb {K : (Nat → AV) → Hp → Prop} {i : Nat} (h : Nx P N hB S Q (.exit i) tm hp) : Nx P N hB (.k K :: S) Q (.exit i) tm hp:=h
theorem tL {i : Nat} (h : Nx P N hB S Q .normal tm hp) : Nx P N hB (.bk i :: S) Q (.exit i) tm hp:=by
 show (if i = i then _ else _);rw [if_pos rfl];exact h
theorem bc {i id : Nat} (hne : (i == id) = false) (h : Nx P N hB S Q (.exit i) tm hp) : Nx P N hB (.bk id :: S) Q (.exit i) tm hp:=by
 show (if i = id then _ else _);rw [if_neg (by simpa using hne)];exact h
theorem tM {y : Code} (h : Nx P N hB S Q .ret tm hp) : Nx P N hB (.sq y :: S) Q .ret tm hp:=h
theorem vc {K : (Nat → AV) → Hp → Prop} (h : Nx P N hB S Q .ret tm hp) : Nx P N hB (.k K :: S) Q .ret tm hp:=h
theorem tN {id : Nat} (h : Nx P N hB S Q .ret tm hp) : Nx P N hB (.bk id :: S) Q .ret tm hp:=h
theorem tO {e : Exit} (h : Q e tm hp) : Nx P N hB [] Q e tm hp:=h
theorem tP {x y : Code} (h : Aw P N hB x (Nx P N hB (.sq y :: S) Q) tm hp) : Aw P N hB (.seq x y) (Nx P N hB S Q) tm hp :=
 ry fun K hK=>h.mono fun e tm hp h=>by cases e <;> first|exact hK _ _ h|exact h
theorem pQ {id : Nat} {c : Code} (h : Aw P N hB c (Nx P N hB (.bk id :: S) Q) tm hp) : Aw P N hB (.block id c) (Nx P N hB S Q) tm hp:=n9 h
theorem rT (h : Nx P N hB S Q .normal tm hp) : Aw P N hB .skip (Nx P N hB S Q) tm hp:=pD h
theorem pR {l : Nat} (h : Nx P N hB S Q .normal tm hp) : Aw P N hB (.label l) (Nx P N hB S Q) tm hp:=n8 h
theorem rU {id : Nat} (h : Nx P N hB S Q (.exit id) tm hp) : Aw P N hB (.exit id) (Nx P N hB S Q) tm hp:=pE h
theorem tQ (h : Nx P N hB S Q .ret tm hp) : Aw P N hB .ret (Nx P N hB S Q) tm hp:=rx h
theorem vd {c : Operand} {x y : Code} (hc : evT tm c = .c (.bool true)) (h : Aw P N hB x (Nx P N hB S Q) tm hp) : Aw P N hB (.cond c x y) (Nx P N hB S Q) tm hp :=
 jD hc (fun _=>h) (fun e=>by cases e)
theorem vf {c : Operand} {x y : Code} (hc : evT tm c = .c (.bool false)) (h : Aw P N hB y (Nx P N hB S Q) tm hp) : Aw P N hB (.cond c x y) (Nx P N hB S Q) tm hp :=
 jD hc (fun e=>by cases e) (fun _=>h)
theorem vg {c : Operand} {x y : Code} {b : Bool} (hc : evT tm c = .c (.bool b)) (h1 : b = true → Aw P N hB x (Nx P N hB S Q) tm hp) (h2 : b = false → Aw P N hB y (Nx P N hB S Q) tm hp) : Aw P N hB (.cond c x y) (Nx P N hB S Q) tm hp :=
 jD hc h1 h2
theorem tR {id : Nat} {l : List Oper} {draw : Bool} (hT : cB P ti) (hN : Nm hp0 ν) (hd : draw = false) (hs : fN N l.toArray = true) (h : aws P ti hp0 ν l.toArray l (Nx P N hB S Q .normal) tm hp) : Aw P N hB (.region id l.toArray draw) (Nx P N hB S Q) tm hp :=
 m0 hT hd hs (rP hN _ _ _ _ h)
theorem rV {id : Nat} {l : List Oper} {draw : Bool} (hT : cB P ti) (hN : Nm hp0 ν) (hm : P.follows .mixedOrders = true) (hd : draw = true) (hs : fN N l.toArray = true) (hst : nX l.toArray = true) (ps : List (Nat × Nat)) (hps : gp l.toArray = ps)
  (h : awd P ti hp0 ν l.toArray l (fun acc tm hp=>lq ps acc ∧ Nx P N hB S Q .normal tm hp) [] tm hp) : Aw P N hB (.region id l.toArray draw) (Nx P N hB S Q) tm hp :=
 pG hT hm hd hs hst ps hps (rR hN _ _ _ _ h)
theorem ce {X : Type} (st : X → (Nat → AV) × Hp) (Inv : X → Prop) (μ : X → Nat) {c : Code} (h0 : ∃ x,Inv x ∧ Le hB tm hp (st x).1 (st x).2)
  (hr : ∀ x,Inv x → Aw P N hB c (Nx P N hB (.k (fun tm2 hp2=>∃ y,(Inv y ∧ μ y < μ x) ∧ Le hB tm2 hp2 (st y).1 (st y).2) :: S) Q) (st x).1 (st x).2) : Aw P N hB (.loop c) (Nx P N hB S Q) tm hp :=
 pF st Inv μ h0 fun x hx=>(hr x hx).mono fun e tm hp h=>by
  cases e with
  | normal => obtain ⟨y, ⟨h1, h2⟩, h3⟩ := h; exact ⟨y, h1, h2, h3⟩
  | _ => exact h
theorem bu (hT : cB P ti) {f : FuncId} {fn : Func} {c : Code} {args : List AV} {nw : List Ent} {val : List Nat → AV} (hf : P.funcs[f]? = some fn) (hb : fn.body = some c) (hname : (fn.name == "runtime.NumGoroutine") = false) (hN : args.length.ble fn.ntmps = true)
  (h : ∀ hp0 ν,Bs hp0 hp0 ν 0 → Nm hp0 ν → Aw P fn.ntmps hp0 c (Nx P fn.ntmps hp0 [] (m7 ti fn hp0 nw val)) (tmL (cy 0 args)) (hpL hp0 ν [])) : au P f args nw val :=
 m8 hT hf hb hname (Nat.le_of_ble_eq_true hN) fun hp0 hX lo w0 φ0 a w hC=>by
  obtain ⟨ν,hN⟩:=tG (hp0:=hp0) (by
   obtain ⟨φ,H,_⟩:=hC;exact H.fin)
  have:=h hp0 ν (Bs.base hX hN) hN
  rw [pL hN,← ot] at this
  exact this lo w0 φ0 a w hC
end
end Go.Proofs.Ythjamlponejffaa
namespace Go.Proofs.Ythjamlponejffaa
set_option linter.unusedVariables false
set_option linter.unusedSimpArgs false
open Go.RowKit
def sw : List (Nat × Nat) → Nat → Nat
 | [], i => i
 | (a, b) :: l, i => let j := sw l i; if j = a then b else if j = b then a else j
theorem rW : ∀ (s : List (Nat × Nat)) (i j : Nat),sw s i = sw s j → i = j:=by
 intro s
 induction s with
 | nil => intro i j h; exact h
 | cons p s ih =>
   obtain ⟨a,b⟩:=p
   intro i j h
   refine ih _ _ ?_
   simp only [sw] at h
   repeat' split at h
   all_goals omega
noncomputable def rho (ν : Nat → Nat) (s : List (Nat × Nat)) : Nat → Nat:=fun x=>@dite _ (∃ i,x = ν i) (Classical.propDecidable _) (fun h=>ν (sw s (Classical.choose h))) (fun _=>x)
section
variable {hB hp0 : Hp} {ν : Nat → Nat} {s : List (Nat × Nat)} {L L' : List Ent}
theorem cU (hN : Nm hp0 ν) (i : Nat) : rho ν s (ν i) = ν (sw s i):=by
 have h : ∃ j,ν i = ν j:=⟨i,rfl⟩
 unfold rho
 rw [dif_pos h,hN.inj _ _ (Classical.choose_spec h).symm]
theorem ff {x : Nat} (h : ∀ i,x ≠ ν i) : rho ν s x = x:=by
 unfold rho;rw [dif_neg fun ⟨i,e⟩=>h i e]
theorem jF (hN : Nm hp0 ν) (x y : Nat) (h : rho ν s x = rho ν s y) : x = y:=by
 by_cases h1 : ∃ i,x = ν i <;> by_cases h2 : ∃ i,y = ν i
 · obtain ⟨i,rfl⟩:=h1;obtain ⟨j,rfl⟩:=h2
   rw [cU hN,cU hN] at h
   rw [rW s _ _ (hN.inj _ _ h)]
 · obtain ⟨i,rfl⟩:=h1
   rw [cU hN,ff fun j e=>h2 ⟨j,e⟩] at h
   exact absurd ⟨_,h.symm⟩ h2
 · obtain ⟨i,rfl⟩:=h2
   rw [cU hN,ff fun j e=>h1 ⟨j,e⟩] at h
   exact absurd ⟨_,h⟩ h1
 · rwa [ff fun j e=>h1 ⟨j,e⟩,ff fun j e=>h2 ⟨j,e⟩] at h
theorem nd (ν : Nat → Nat) (n : Nat) : ∃ b,∀ i,i < n → ν i < b:=by
 induction n with
 | zero => exact ⟨0, fun i h => by omega⟩
 | succ n ih =>
   obtain ⟨b,hb⟩:=ih
   refine ⟨max b (ν n + 1),fun i h=>?_⟩
   rcases Nat.lt_or_ge i n with h'|h'
   · have:=hb i h';omega
   · have : i = n:=by omega
     subst this;omega
theorem pS (hN : Nm hp0 ν) (h : gz (hpL hp0 ν L)) : gz (hpL hp0 ν L'):=by
 obtain ⟨b,hb⟩:=h
 obtain ⟨b',hb'⟩:=nd ν L'.length
 refine ⟨max b b',fun x hx=>?_⟩
 by_cases h1 : ∃ i,x = ν i
 · obtain ⟨i,rfl⟩:=h1
   rw [am hN]
   refine List.getElem?_eq_none ?_
   rcases Nat.lt_or_ge i L'.length with h'|h'
   · have:=hb' i h';omega
   · exact h'
 · have:=hb x (by omega)
   rw [dl fun i e=>h1 ⟨i,e⟩] at this ⊢
   exact this
abbrev LV (hp0 : Hp) (ν : Nat → Nat) (s : List (Nat × Nat)) (L L' : List Ent) : AV → AV → Prop:=LeV (hpL hp0 ν L) (hpL hp0 ν L') (rho ν s)
inductive LVs (hp0 : Hp) (ν : Nat → Nat) (s : List (Nat × Nat)) (L L' : List Ent) : List AV → List AV → Prop where
 | nil : LVs hp0 ν s L L' [] []
 | cons {a b : AV} {l m : List AV} (h : LV hp0 ν s L L' a b) (t : LVs hp0 ν s L L' l m) : LVs hp0 ν s L L' (a :: l) (b :: m)
theorem LVs.at {l m : List AV} (h : LVs hp0 ν s L L' l m) : m.length = l.length ∧ ∀ i,i < l.length → LV hp0 ν s L L' (l.getD i .any) (m.getD i .any):=by
 induction h with
 | nil => exact ⟨rfl, fun i h => by simp at h⟩
 | cons h t ih =>
   refine ⟨by simp [ih.1],fun i hi=>?_⟩
   cases i with
   | zero => exact h
   | succ i => exact ih.2 i (by simpa using hi)
theorem rX (a : AV) : LV hp0 ν s L L' a .any:=.any a
theorem vi (c : C) : LV hp0 ν s L L' (.c c) (.c c):=.rd (.refl c)
theorem aQ {c c' : C} (h : c = c') : LV hp0 ν s L L' (.c c) (.c c'):=by subst h;exact .rd (.refl c)
theorem vj (v : Value) : LV hp0 ν s L L' (.k v) (.k v):=.k v
theorem tS (wd : Nat) (f : Nat → C) : LV hp0 ν s L L' (.el wd f) (.el wd f):=.el wd f
theorem aR (hN : Nm hp0 ν) (i : Nat) {j : Nat} {e : Ent} (hj : sw s i = j) (h : L'[i]? = some e) (hk : (e.kind == 1 || e.kind == 2) = true) : LV hp0 ν s L L' (.sl (ν j)) (.sl (ν i)):=by
 subst hj
 rw [← cU (s:=s) hN]
 refine .sl (by rw [am hN];exact h) ?_
 simp at hk;omega
theorem aS (hN : Nm hp0 ν) (i : Nat) {j off : Nat} {e : Ent} (hj : sw s i = j) (h : L'[i]? = some e) (hk : (e.kind == 0 || e.kind == 2) = true) : LV hp0 ν s L L' (.ad (ν j) off) (.ad (ν i) off):=by
 subst hj
 rw [← cU (s:=s) hN]
 refine .ad (by rw [am hN];exact h) ?_
 simp at hk;omega
theorem aT (hN : Nm hp0 ν) (i : Nat) {j : Nat} {T : TypeId} {nn : Fl} {c c' : C} (hj : sw s i = j) (h : L[j]? = some (.arr T nn c)) (h' : L'[i]? = none ∨ L'[i]? = some .dead) (hr : dR (if nn.nn then .nn c else c) c') : LV hp0 ν s L L' (.sl (ν j)) (.c c'):=by
 refine .fz (by rw [am hN];exact h) (fun y hy=>?_) hr
 subst hj
 rw [← cU (s:=s) hN] at hy
 have:=jF hN _ _ hy
 subst this
 rw [am hN];exact h'
theorem aA (hN : Nm hp0 ν) (i : Nat) {T : TypeId} {c : C} (h : L[sw s i]? = none) (h' : L'[i]? = some (.arr T .may c)) : LV hp0 ν s L L' (.c .nul) (.sl (ν i)) :=
 .nul (by rw [cU hN,am hN];exact h) (by rw [am hN];exact h')
theorem rY {l m : List AV} (h : LVs hp0 ν s L L' l m) : LV hp0 ν s L L' (.agg l) (.agg m):=.agg h.at.1 h.at.2
theorem tT {f : Fn} {l m : List AV} (h : LVs hp0 ν s L L' l m) : LV hp0 ν s L L' (.fn f l) (.fn f m):=.fn h.at.1 h.at.2
abbrev LE (hp0 : Hp) (ν : Nat → Nat) (s : List (Nat × Nat)) (L L' : List Ent) (i : Nat) : Ent → Prop:=LeE (hpL hp0 ν L) (hpL hp0 ν L') (rho ν s) (ν i)
theorem aB (hN : Nm hp0 ν) (i : Nat) {j : Nat} {l : List AV} {cs : List C} (hj : sw s i = j) (h : L[j]? = some (.box l)) (hl : l = cs.map .c) (h' : L'[i]? = none ∨ L'[i]? = some .dead) : LV hp0 ν s L L' (.ad (ν j) 0) (.el cs.length fun j=>cs.getD j .nul):=by
 subst hl
 have:=LeV.fzb (hp:=hpL hp0 ν L) (hp':=hpL hp0 ν L') (ρ:=rho ν s) (ν:=ν j) (l:=cs.map .c) (f:=fun j=>cs.getD j .nul) (by rw [am hN];exact h) (fun j hj=>⟨cs.getD j .nul,by
  have hj' : j < cs.length:=by simpa using hj
  simp [List.getD_eq_getElem?_getD,hj'],.refl _⟩) (fun y hy=>by
  subst hj
  rw [← cU (s:=s) hN] at hy
  have:=jF hN _ _ hy
  subst this
  rw [am hN];exact h')
 rwa [List.length_map] at this
theorem pT (i : Nat) : LE hp0 ν s L L' i .dead:=trivial
theorem aC (hN : Nm hp0 ν) {i : Nat} {l l' : List AV} (h : L[sw s i]? = some (.box l)) (hl : LVs hp0 ν s L L' l l') : LE hp0 ν s L L' i (.box l') :=
 ⟨l,by rw [cU hN,am hN];exact h,hl.at.1,hl.at.2⟩
theorem ou {nn nn' : Fl} (hn : ((!nn'.nn || nn.nn) && (!nn'.hd || nn.hd)) = true) : (nn'.nn = true → nn.nn = true) ∧ (nn'.hd = true → nn.hd = true):=by
 obtain ⟨a,b⟩:=nn;obtain ⟨c,d⟩:=nn'
 cases a <;> cases b <;> cases c <;> cases d <;> simp_all
theorem aD (hN : Nm hp0 ν) {i : Nat} {T : TypeId} {nn nn' : Fl} {c c' : C} (h : L[sw s i]? = some (.arr T nn c)) (hn : ((!nn'.nn || nn.nn) && (!nn'.hd || nn.hd)) = true) (hc : c' = c) : LE hp0 ν s L L' i (.arr T nn' c') :=
 .inl ⟨nn,c,by rw [cU hN,am hN];exact h,ou hn,hc⟩
theorem aE (hN : Nm hp0 ν) {i : Nat} {T : TypeId} {c : C} {V : View} (h : L[sw s i]? = none) (hn : c.isNN = false) (hv : c.view = some V) (h0 : V.len = 0) : LE hp0 ν s L L' i (.arr T .may c) :=
 .inr ⟨by rw [cU hN,am hN];exact h,rfl,hn,V,hv,h0⟩
inductive LEs (hp0 : Hp) (ν : Nat → Nat) (s : List (Nat × Nat)) (L L' : List Ent) : Nat → List Ent → Prop where
 | nil (n : Nat) : LEs hp0 ν s L L' n []
 | cons {n : Nat} {e : Ent} {l : List Ent} (h : LE hp0 ν s L L' n e) (t : LEs hp0 ν s L L' (n + 1) l) : LEs hp0 ν s L L' n (e :: l)
theorem LEs.at {n : Nat} {l : List Ent} (h : LEs hp0 ν s L L' n l) : ∀ i e,l[i]? = some e → LE hp0 ν s L L' (n + i) e:=by
 induction h with
 | nil => intro i e h; simp at h
 | @cons n e l h t ih =>
   intro i e' he
   cases i with
   | zero => simp at he; subst he; exact h
   | succ i =>
     have:=ih i e' (by simpa using he)
     rwa [Nat.add_assoc,Nat.add_comm 1 i] at this
inductive LTs (hp0 : Hp) (ν : Nat → Nat) (s : List (Nat × Nat)) (L L' : List Ent) (tm : List (Nat × AV)) : List (Nat × AV) → Prop where
 | nil : LTs hp0 ν s L L' tm []
 | cons {t : Nat} {a b : AV} {l : List (Nat × AV)} (e : tm.lookup t = some a) (h : LV hp0 ν s L L' a b) (r : LTs hp0 ν s L L' tm l) : LTs hp0 ν s L L' tm ((t, b) :: l)
theorem LTs.at {tm l : List (Nat × AV)} (h : LTs hp0 ν s L L' tm l) (t : Nat) : LV hp0 ν s L L' (tmL tm t) (tmL l t):=by
 induction h with
 | nil => exact .any _
 | @cons t' a b l e h r ih =>
   by_cases h' : t = t'
   · subst h';rw [fO];unfold tmL;rw [e];exact h
   · rw [jE h'];exact ih
def leK (s : List (Nat × Nat)) (L' : List Ent) (k : Nat) : Bool:=(List.range k).all fun i=>sw s i == i && i.blt L'.length
theorem bC {k : Nat} (hX : Bs hB hp0 ν k) (hN : Nm hp0 ν) (s : List (Nat × Nat)) {tm l : List (Nat × AV)} (hE : LEs hp0 ν s L L' 0 L') (hT : LTs hp0 ν s L L' tm l) (hk : leK s L' k = true:=by rfl) : Le hB (tmL tm) (hpL hp0 ν L) (tmL l) (hpL hp0 ν L'):=by
 refine oh (rho ν s) (jF hN) (fun x e h=>?_) (pS hN) (fun x e h=>?_) (fun t=>hT.at t)
 · by_cases h1 : ∃ i,x = ν i
   · obtain ⟨i,rfl⟩:=h1
     have hik : i < k:=by
      rcases Nat.lt_or_ge i k with h'|h'
      · exact h'
      · rw [hX.inn i h'] at h;cases h
     have h2:=List.all_eq_true.1 hk i (List.mem_range.2 hik)
     simp only [Bool.and_eq_true,beq_iff_eq,Nat.blt_eq] at h2
     refine ⟨by rw [cU hN,h2.1],L'[i]'h2.2,by rw [am hN,List.getElem?_eq_getElem h2.2],fun _ e3=>?_⟩
     have:=hX.own i e h
     omega
   · have h2 : ∀ i,x ≠ ν i:=fun i e=>h1 ⟨i,e⟩
     rw [hX.out x h2] at h
     have h3:=hX.ext x e h
     refine ⟨ff h2,e,by rw [dl h2];exact h,fun h4=>by omega⟩
 by_cases h1 : ∃ i,x = ν i
 · obtain ⟨i,rfl⟩:=h1
   rw [am hN] at h
   have:=hE.at i e h
   rwa [Nat.zero_add] at this
 · have h2 : ∀ i,x ≠ ν i:=fun i e=>h1 ⟨i,e⟩
   rw [dl h2] at h
   have h3:=hX.ext x e h
   cases e with
   | ext => show hpL hp0 ν L (rho ν s x) = _; rw [ff h2, dl h2]; exact h
   | _ => simp [Ent.kind] at h3
theorem az {hp : Hp} : hZ hp [] []:=⟨rfl,fun i h=>by simp at h⟩
theorem aw {hp : Hp} {a b : AV} {l m : List AV} (h : ArgV hp a b) (t : hZ hp l m) : hZ hp (a :: l) (b :: m):=by
 refine ⟨by simp [t.1],fun i hi=>?_⟩
 cases i with
 | zero => exact h
 | succ i => exact t.2 i (by simpa using hi)
theorem bX {hp : Hp} (c : C) : ArgV hp (.c c) (.c c):=.rd (.refl c)
theorem aW {hp : Hp} (c : C) : ArgV hp (.c (.nn c)) (.c c):=.rd (.unn c)
theorem aX {hp : Hp} {c : C} {V : View} (hv : c.view = some V) (h0 : V.len = 0) (hn : c.isNN = false) : ArgV hp (.c .nul) (.c c):=.rd (.nul hv h0 hn)
theorem bw (hN : Nm hp0 ν) {i : Nat} {T : TypeId} {nn : Fl} {c c' : C} (h : L[i]? = some (.arr T nn c)) (hr : dR (if nn.nn then .nn c else c) c') : ArgV (hpL hp0 ν L) (.sl (ν i)) (.c c') :=
 .fz (by rw [am hN];exact h) hr
theorem aY {hp : Hp} {l m : List AV} (h : hZ hp l m) : ArgV hp (.agg l) (.agg m):=.agg h.1 h.2
theorem bz {hp : Hp} {f : Fn} {l m : List AV} (h : hZ hp l m) : ArgV hp (.fn f l) (.fn f m):=.fn h.1 h.2
theorem bA {hp : Hp} (wd : Nat) (f : Nat → C) : ArgV hp (.el wd f) (.el wd f):=.el wd f
abbrev elA (cs : List C) : AV:=.el cs.length fun j=>cs.getD j .nul
theorem aZ (hN : Nm hp0 ν) {i : Nat} {l : List AV} {cs : List C} (h : L[i]? = some (.box l)) (hl : l = cs.map .c) : ArgV (hpL hp0 ν L) (.ad (ν i) 0) (elA cs):=by
 subst hl
 have:=ArgV.box (hp:=hpL hp0 ν L) (x:=ν i) (l:=cs.map .c) (f:=fun j=>cs.getD j .nul) (by rw [am hN];exact h) fun j hj=>⟨cs.getD j .nul,by
  have hj' : j < cs.length:=by simpa using hj
  simp [List.getD_eq_getElem?_getD,hj'],.refl _⟩
 rwa [List.length_map] at this
theorem a8 {hp : Hp} (cs : List C) : ArgV hp (elA cs) (elA cs):=.el _ _
theorem bo {P : Program} {f : FuncId} {args avs : List AV} {nw : List Ent} {val : List Nat → AV} {hp : Hp} {k : Eff → Prop} (hF : au P f args nw val) (hA : hZ hp avs args) (h1 : nw.all Ent.flat = true) (h2 : ∀ ν,(val ν).flat = true) (h : k ⟨True,nw,[],val⟩) : ∃ E,ci P f avs hp E ∧ k E :=
 ⟨_,na hF hA h1 h2,h⟩
theorem pU {P : Program} {f : FuncId} {args avs : List AV} {nw : List Ent} {val : List Nat → AV} {hp : Hp} {k : Eff → Prop} (hF : au P f args nw val) (hA : hZ hp avs args) (hn : bn avs = []) (h1 : nw.all (fun e=>e.kind == 1) = true) (h : k ⟨True,nw,[],val⟩) : ∃ E,ci P f avs hp E ∧ k E :=
 ⟨_,nb hF hA hn (fun e he=>by simpa using List.all_eq_true.1 h1 e he),h⟩
theorem dF {ti : TI} {fn : Func} {tm : Nat → AV} {hp : Hp} {c c' : C} {e : Exit} (he : e = .normal ∨ e = .ret) (hr : bW ti tm hp fn.results.toList = some (.c c')) (hc : c' = c) : m7 ti fn hp0 [] (fun _=>.c c) e tm hp:=by
 subst hc
 exact ⟨he,_,hr,lw [] List.nodup_nil rfl (fun i hi=>by simp at hi) fun ν _=>.rd (.refl _)⟩
theorem cz {ti : TI} {fn : Func} {tm : Nat → AV} (hN : Nm hp0 ν) {i : Nat} {T : TypeId} {nn nn' : Fl} {c c' : C} {e : Exit} (he : e = .normal ∨ e = .ret) (hr : bW ti tm (hpL hp0 ν L) fn.results.toList = some (.sl (ν i))) (h : L[i]? = some (.arr T nn c')) (hc : c' = c) (hn : ((!nn'.nn || nn.nn) && (!nn'.hd || nn.hd)) = true) :
  m7 ti fn hp0 [.arr T nn' c] (fun ns=>.sl (ns.getD 0 0)) e tm (hpL hp0 ν L):=by
 subst hc
 refine ⟨he,_,hr,lw [ν i] (by simp) rfl (fun j hj=>?_) fun ns _=>.sl 0 (by simp)⟩
 have : j = 0:=by simp at hj;exact hj
 subst this
 exact ⟨T,nn,nn',c',by rw [List.getD_cons_zero,am hN];exact h,rfl,ou hn⟩
theorem tU {ti : TI} {fn : Func} {tm : Nat → AV} {hp : Hp} {e : Exit} {nw : List Ent} {val : List Nat → AV} {r : AV} (he : e = .normal ∨ e = .ret) (hr : bW ti tm hp fn.results.toList = some r) (h : rz hp0 r hp nw val) : m7 ti fn hp0 nw val e tm hp:=⟨he,_,hr,h⟩
end
def CB : AV → Prop → Prop → Prop
 | .c (.bool b), X, Y => (b = true → X) ∧ (b = false → Y)
 | _, _, _ => False
section
variable {P : Program} {ti : TI} {N : Nat} {hB hp0 : Hp} {ν : Nat → Nat} {ops : Array Oper} {S : List Fr} {Q : fl} {tm : Nat → AV} {hp : Hp}
theorem bd {t : Nat} {x y : Code} {L : List (Nat × AV)} (hc : L.lookup t = some (.c (.bool true))) (h : Aw P N hB x (Nx P N hB S Q) (tmL L) hp) : Aw P N hB (.cond (.tmp t) x y) (Nx P N hB S Q) (tmL L) hp:=vd (by show tmL L t = _;unfold tmL;rw [hc]) h
theorem be {t : Nat} {x y : Code} {L : List (Nat × AV)} (hc : L.lookup t = some (.c (.bool false))) (h : Aw P N hB y (Nx P N hB S Q) (tmL L) hp) : Aw P N hB (.cond (.tmp t) x y) (Nx P N hB S Q) (tmL L) hp:=vf (by show tmL L t = _;unfold tmL;rw [hc]) h
theorem aN {c : Operand} {x y : Code} (h : ∀ X Y : Prop,(Aw P N hB x (Nx P N hB S Q) tm hp → X) → (Aw P N hB y (Nx P N hB S Q) tm hp → Y) → CB (evT tm c) X Y) : Aw P N hB (.cond c x y) (Nx P N hB S Q) tm hp:=by
 have:=h _ _ id id
 unfold CB at this
 split at this
 · rename_i hc;exact vg hc this.1 this.2
 · exact this.elim
theorem bI {o : Oper} {l : List Oper} {K : (Nat → AV) → Hp → Prop} {L : List (Nat × AV)} (h : aws P ti hp0 ν ops (o :: l) K (tmL L) hp) : aws P ti hp0 ν ops (o :: l) K (tmL L) hp:=h
theorem vH {l : List Oper} {K : List Foot → (Nat → AV) → Hp → Prop} {acc : List Foot} {L : List (Nat × AV)} (h : awd P ti hp0 ν ops l K acc (tmL L) hp) : awd P ti hp0 ν ops l K acc (tmL L) hp:=h
theorem bf {c : Operand} {x y : Code} {S : List Fr} {L : List (Nat × AV)} (h : Aw P N hB (.cond c x y) (Nx P N hB S Q) (tmL L) hp) : Aw P N hB (.cond c x y) (Nx P N hB S Q) (tmL L) hp:=h
theorem tV {o : Oper} {l : List Oper} {K : (Nat → AV) → Hp → Prop} {L : List (Nat × AV)} {d : Nat} (hg : o.guard = none) (hd : o.dst = some d)
  (h : ∀ K' : AV → Hp → Prop,(∀ a hp,aws P ti hp0 ν ops l K (tmL ((d,a) :: L)) hp → K' a hp) → dQ P ti o.op (evT (tmL L)) hp fun E=>FN hp0 ν E.nw (aM hp E.up) fun hp' ns=>K' (E.val ns) hp') : aws P ti hp0 ν ops (o :: l) K (tmL L) hp:=by
 simp only [aws,hg,hd,bZ,cW]
 exact h (fun a hp=>aws P ti hp0 ν ops l K (tmL ((d,a) :: L)) hp) fun _ _ h=>h
theorem tW {o : Oper} {l : List Oper} {K : (Nat → AV) → Hp → Prop} {L : List (Nat × AV)} (hg : o.guard = none) (hd : o.dst = none)
  (h : ∀ K' : Hp → Prop,(∀ hp,aws P ti hp0 ν ops l K (tmL L) hp → K' hp) → dQ P ti o.op (evT (tmL L)) hp fun E=>FN hp0 ν E.nw (aM hp E.up) fun hp' ns=>K' hp') : aws P ti hp0 ν ops (o :: l) K (tmL L) hp:=by
 simp only [aws,hg,hd,bZ]
 exact h (fun hp=>aws P ti hp0 ν ops l K (tmL L) hp) fun _ h=>h
theorem tX {o : Oper} {l : List Oper} {K : List Foot → (Nat → AV) → Hp → Prop} {acc : List Foot} {L : List (Nat × AV)} {d : Nat} (hg : o.guard = none) (hd : o.dst = some d)
  (h : ∀ K' : Foot → AV → Hp → Prop,(∀ f a hp,awd P ti hp0 ν ops l K (acc ++ [f]) (tmL ((d,a) :: L)) hp → K' f a hp) → dQ P ti o.op (evT (tmL L)) hp fun E=>FN hp0 ν E.nw (aM hp E.up) fun hp' ns=>K' ⟨rdN o.op (evT (tmL L)),E.up.map (·.1),ns⟩ (E.val ns) hp') : awd P ti hp0 ν ops (o :: l) K acc (tmL L) hp:=by
 simp only [awd,hg,hd,bZ,cW]
 exact h (fun f a hp=>awd P ti hp0 ν ops l K (acc ++ [f]) (tmL ((d,a) :: L)) hp) fun _ _ _ h=>h
theorem tY {o : Oper} {l : List Oper} {K : List Foot → (Nat → AV) → Hp → Prop} {acc : List Foot} {L : List (Nat × AV)} (hg : o.guard = none) (hd : o.dst = none)
  (h : ∀ K' : Foot → Hp → Prop,(∀ f hp,awd P ti hp0 ν ops l K (acc ++ [f]) (tmL L) hp → K' f hp) → dQ P ti o.op (evT (tmL L)) hp fun E=>FN hp0 ν E.nw (aM hp E.up) fun hp' ns=>K' ⟨rdN o.op (evT (tmL L)),E.up.map (·.1),ns⟩ hp') : awd P ti hp0 ν ops (o :: l) K acc (tmL L) hp:=by
 simp only [awd,hg,hd,bZ]
 exact h (fun f hp=>awd P ti hp0 ν ops l K (acc ++ [f]) (tmL L) hp) fun _ _ h=>h
theorem fg {L : List (Nat × AV)} {d : Nat} {a : AV} (h : L.lookup d = some a) : tmL L d = a:=by unfold tmL;rw [h]
theorem bH {o : Oper} {l : List Oper} {K : (Nat → AV) → Hp → Prop} {L : List (Nat × AV)} {j d : Nat} {want : Bool} (hg : o.guard = some (j,want)) (hd : (ops[j]?).bind (·.dst) = some d) (ht : L.lookup d = some (.c (.bool want)))
  (h : aws P ti hp0 ν ops ({ o with guard:=none } :: l) K (tmL L) hp) : aws P ti hp0 ν ops (o :: l) K (tmL L) hp:=tI hg hd (fg ht) h
theorem bp {o : Oper} {l : List Oper} {K : (Nat → AV) → Hp → Prop} {L : List (Nat × AV)} {j d e : Nat} {want : Bool} (hg : o.guard = some (j,want)) (hd : (ops[j]?).bind (·.dst) = some d) (ht : L.lookup d = some (.c (.bool (!want)))) (he : o.dst = some e)
  (h : aws P ti hp0 ν ops l K (tmL ((e,.k undef) :: L)) hp) : aws P ti hp0 ν ops (o :: l) K (tmL L) hp:=rQ hg hd (fg ht) (by rw [he];simp only [bZ,cW];exact h)
theorem vm {o : Oper} {l : List Oper} {K : List Foot → (Nat → AV) → Hp → Prop} {acc : List Foot} {L : List (Nat × AV)} {j d : Nat} {want : Bool} (hg : o.guard = some (j,want)) (hd : (ops[j]?).bind (·.dst) = some d) (ht : L.lookup d = some (.c (.bool want)))
  (h : awd P ti hp0 ν ops ({ o with guard:=none } :: l) K acc (tmL L) hp) : awd P ti hp0 ν ops (o :: l) K acc (tmL L) hp:=tJ hg hd (fg ht) h
theorem uk {o : Oper} {l : List Oper} {K : List Foot → (Nat → AV) → Hp → Prop} {acc : List Foot} {L : List (Nat × AV)} {j d e : Nat} {want : Bool} (hg : o.guard = some (j,want)) (hd : (ops[j]?).bind (·.dst) = some d) (ht : L.lookup d = some (.c (.bool (!want)))) (he : o.dst = some e)
  (h : awd P ti hp0 ν ops l K (acc ++ [⟨[],[],[]⟩]) (tmL ((e,.k undef) :: L)) hp) : awd P ti hp0 ν ops (o :: l) K acc (tmL L) hp:=rS hg hd (fg ht) (by rw [he];simp only [bZ,cW];exact h)
theorem bY {o : Oper} {l : List Oper} {K : (Nat → AV) → Hp → Prop} {L : List (Nat × AV)} {j d e : Nat} {want : Bool} (hg : o.guard = some (j,want)) (hd : (ops[j]?).bind (·.dst) = some d) (ht : L.lookup d = some (.k undef)) (he : o.dst = some e)
  (h : aws P ti hp0 ν ops l K (tmL ((e,.k undef) :: L)) hp) : aws P ti hp0 ν ops (o :: l) K (tmL L) hp:=by
 simp only [aws,hg,hd,fg ht,he,bZ,cW]
 exact ⟨trivial,h⟩
theorem vD {o : Oper} {l : List Oper} {K : List Foot → (Nat → AV) → Hp → Prop} {acc : List Foot} {L : List (Nat × AV)} {j d e : Nat} {want : Bool} (hg : o.guard = some (j,want)) (hd : (ops[j]?).bind (·.dst) = some d) (ht : L.lookup d = some (.k undef)) (he : o.dst = some e)
  (h : awd P ti hp0 ν ops l K (acc ++ [⟨[],[],[]⟩]) (tmL ((e,.k undef) :: L)) hp) : awd P ti hp0 ν ops (o :: l) K acc (tmL L) hp:=by
 simp only [awd,hg,hd,fg ht,he,bZ,cW]
 exact ⟨trivial,h⟩
theorem br {o : Oper} {l : List Oper} {K : (Nat → AV) → Hp → Prop} {L : List (Nat × AV)} {j d : Nat} {want : Bool} (hg : o.guard = some (j,want)) (hd : (ops[j]?).bind (·.dst) = some d)
  (h : ∀ X Y : Prop,(aws P ti hp0 ν ops (o :: l) K (tmL ((d,.c (.bool true)) :: L)) hp → X) → (aws P ti hp0 ν ops (o :: l) K (tmL ((d,.c (.bool false)) :: L)) hp → Y) → CB (tmL L d) X Y) : aws P ti hp0 ν ops (o :: l) K (tmL L) hp:=by
 have h':=h _ _ id id
 unfold CB at h'
 split at h'
 · rename_i t ht
   exact pO hg hd ht (fun e=>by rw [cW];exact h'.1 e) (fun e=>by rw [cW];exact h'.2 e)
 · exact h'.elim
theorem ul {o : Oper} {l : List Oper} {K : List Foot → (Nat → AV) → Hp → Prop} {acc : List Foot} {L : List (Nat × AV)} {j d : Nat} {want : Bool} (hg : o.guard = some (j,want)) (hd : (ops[j]?).bind (·.dst) = some d)
  (h : ∀ X Y : Prop,(awd P ti hp0 ν ops (o :: l) K acc (tmL ((d,.c (.bool true)) :: L)) hp → X) → (awd P ti hp0 ν ops (o :: l) K acc (tmL ((d,.c (.bool false)) :: L)) hp → Y) → CB (tmL L d) X Y) : awd P ti hp0 ν ops (o :: l) K acc (tmL L) hp:=by
 have h':=h _ _ id id
 unfold CB at h'
 split at h'
 · rename_i t ht
   exact pP hg hd ht (fun e=>by rw [cW];exact h'.1 e) (fun e=>by rw [cW];exact h'.2 e)
 · exact h'.elim
theorem vr {hp : Hp} {k : Hp → List Nat → Prop} : FN hp0 ν [] hp k = k hp []:=rfl
theorem b8 {hp : Hp} {k : Hp → List Nat → Prop} (h : k hp []) : FN hp0 ν [] hp k:=h
theorem aO {L : List Ent} {e : Ent} {es : List Ent} {k : Hp → List Nat → Prop} (h : k (hpL hp0 ν (L ++ e :: es)) (nmL ν L.length (e :: es))) : FN hp0 ν (e :: es) (hpL hp0 ν L) k:=⟨L,rfl,h⟩
end
inductive FI (ν : Nat → Nat) : List Nat → List Nat → Prop where
 | nil : FI ν [] []
 | cons {i : Nat} {l m : List Nat} (h : FI ν l m) : FI ν (ν i :: l) (i :: m)
inductive FtI (ν : Nat → Nat) : List Foot → List Foot → Prop where
 | nil : FtI ν [] []
 | cons {a b c a' b' c' : List Nat} {l m : List Foot} (h1 : FI ν a a') (h2 : FI ν b b') (h3 : FI ν c c') (h : FtI ν l m) : FtI ν (l ++ [⟨a, b, c⟩]) (m ++ [⟨a', b', c'⟩])
def rZ (l m : List Nat) : Bool:=l.all fun x=>m.all fun y=>!(x == y)
def tZ (f g : Foot) : Bool:=rZ (f.wr ++ f.nw) (g.rd ++ g.wr) && rZ (g.wr ++ g.nw) (f.rd ++ f.wr)
def ftB (ops : Array Oper) (l : List Foot) : Bool:=(gp ops).all fun p=>tZ (l.getD p.1 ⟨[],[],[]⟩) (l.getD p.2 ⟨[],[],[]⟩)
theorem FI.map {ν : Nat → Nat} {l m : List Nat} (h : FI ν l m) : l = m.map ν:=by
 induction h with
 | nil => rfl
 | cons h ih => rw [ih]; rfl
theorem FtI.map {ν : Nat → Nat} {l m : List Foot} (h : FtI ν l m) : l = m.map fun f=>⟨f.rd.map ν,f.wr.map ν,f.nw.map ν⟩:=by
 induction h with
 | nil => rfl
 | cons h1 h2 h3 h ih => rw [List.map_append, ← ih, h1.map, h2.map, h3.map]; rfl
theorem ov {hp0 : Hp} {ν : Nat → Nat} (hN : Nm hp0 ν) {l m : List Nat} (h : rZ l m = true) : rt (l.map ν) (m.map ν):=by
 intro x hx y hy e
 obtain ⟨i,hi,rfl⟩:=List.mem_map.1 hx
 obtain ⟨j,hj,rfl⟩:=List.mem_map.1 hy
 have h1:=List.all_eq_true.1 (List.all_eq_true.1 h i hi) j hj
 have:=hN.inj _ _ e
 subst this
 simp at h1
theorem ow {hp0 : Hp} {ν : Nat → Nat} (hN : Nm hp0 ν) {ops : Array Oper} {acc ai : List Foot} (h : FtI ν acc ai) (hb : ftB ops ai = true) : lq (gp ops) acc:=by
 intro p hp
 have h1:=List.all_eq_true.1 hb p hp
 simp only [tZ,Bool.and_eq_true] at h1
 rw [h.map]
 have e : ∀ i,(ai.map fun f=>(⟨f.rd.map ν,f.wr.map ν,f.nw.map ν⟩ : Foot)).getD i ⟨[],[],[]⟩ = ⟨(ai.getD i ⟨[],[],[]⟩).rd.map ν,(ai.getD i ⟨[],[],[]⟩).wr.map ν,(ai.getD i ⟨[],[],[]⟩).nw.map ν⟩:=fun i=>by
  simp only [List.getD_eq_getElem?_getD,List.getElem?_map]
  cases ai[i]? <;> rfl
 rw [e,e]
 refine ⟨?_,?_⟩ <;> simp only [← List.map_append] <;> exact ov hN (by first|exact h1.1|exact h1.2)
theorem pV {P : Program} {ti : TI} {N : Nat} {hB hp0 : Hp} {ν : Nat → Nat} {S : List Fr} {Q : fl} {tm : Nat → AV} {hp : Hp} {id : Nat} {l : List Oper} {draw : Bool} (hT : cB P ti) (hN : Nm hp0 ν) (hd : draw = true) (hm : P.follows .mixedOrders = true) (hs : fN N l.toArray = true) (hst : nX l.toArray = true)
  (h : awd P ti hp0 ν l.toArray l (fun acc tm hp=>lq (gp l.toArray) acc ∧ Nx P N hB S Q .normal tm hp) [] tm hp) : Aw P N hB (.region id l.toArray draw) (Nx P N hB S Q) tm hp :=
 rV hT hN hm hd hs hst _ rfl h
theorem t4 {P : Program} {ti : TI} {hp0 : Hp} {ν : Nat → Nat} {ops : Array Oper} {X : (Nat → AV) → Hp → Prop} {acc : List Foot} {tm : Nat → AV} {hp : Hp} (hN : Nm hp0 ν) (h : ∃ ai,FtI ν acc ai ∧ ftB ops ai = true) (hx : X tm hp) : awd P ti hp0 ν ops [] (fun acc tm hp=>lq (gp ops) acc ∧ X tm hp) acc tm hp :=
 ⟨let ⟨_,h1,h2⟩:=h;ow hN h1 h2,hx⟩
theorem r7 {p q : Prop} [Decidable p] (h : p ↔ q) : decide p = tf q:=by
 by_cases hp : p
 · rw [aH (h.1 hp)];simp [hp]
 · rw [ap fun hq=>hp (h.2 hq)];simp [hp]
theorem ox {q : Prop} (h : ¬ q) : false = tf q:=(ap h).symm
theorem pW {q : Prop} (h : q) : true = tf q:=(aH h).symm
theorem l9 {b : Bool} {q : Prop} (h : b = true ↔ q) : b = tf q:=by
 cases b
 · exact ox fun hq=>by have:=h.2 hq;cases this
 · exact pW (h.1 rfl)
theorem ak {p : Prop} (h : p) : p:=h
theorem vt {p : Prop} : (tf p = true) = p:=propext gL
theorem vu {p : Prop} : (tf p = false) = ¬ p:=propext qP
theorem pX (tm : Nat → AV) (t : Nat) : evT tm (.tmp t) = tm t:=rfl
theorem pY (tm : Nat → AV) (k : IntKind) (n : Int) : evT tm (.const (.int k n)) = .c (.int k n):=rfl
theorem oy (tm : Nat → AV) (b : Bool) : evT tm (.const (.bool b)) = .c (.bool b):=rfl
theorem pZ (tm : Nat → AV) : evT tm (.const (.slice none 0 0)) = .c .nul:=rfl
theorem oz (tm : Nat → AV) (f : FuncId) : evT tm (.func f) = .fn (.func f) []:=rfl
theorem p8 {n : Int} (h : -9223372036854775808 ≤ n ∧ n ≤ 9223372036854775807) : IntKind.i64.wrap n = n:=by rw [IntKind.wrap_i64];omega
attribute [go_sem] List.range_zero List.range_succ and_self dQ dA opW pX pY oy pZ oz l8 aM vr nmL pt unW gm fp fq fu dZ kW pw px cx jn jo c8 lV lW j4 toC eq po C.row pp fG iw lU fo gy eC iH bJ slC dv gd C.view AV.one AV.cells TSh.isStruct ret gX CB p8 List.size_toArray List.map_cons List.map_nil List.getElem?_cons_zero List.getElem?_cons_succ List.length_cons List.length_nil List.set_cons_zero List.set_cons_succ List.take_succ_cons List.take_zero List.take_nil List.drop_zero List.drop_succ_cons List.cons_append List.nil_append List.getD_cons_zero List.getD_cons_succ List.all_cons List.all_nil rdN Op.operands Call.operands Array.toList_append Array.toList_map Option.toArray List.append_toArray Op.still bn AV.names List.append_nil Option.map_some Option.map_none Option.bind_some vt vu Bool.and_eq_true Bool.or_eq_true Bool.and_eq_false_imp Bool.or_eq_false_iff Fl.yes Fl.may cr dI dg cJ List.length_set List.length_append List.length_replicate List.not_mem_nil not_false_eq_true Int.toNat_natCast true_and and_true forall_const false_imp_iff true_imp_iff implies_true eq_self Bool.false_eq_true Bool.true_eq_false Bool.and_self Bool.not_true Bool.not_false Nat.zero_add decide_eq_true_eq decide_eq_false_iff_not Bool.not_eq_true' Bool.not_eq_false' beq_iff_eq bne_iff_ne ne_eq gt_iff_lt ge_iff_le ti2 ti3 ti4 ti5 ti6 ti7 ti8 uv uw ux uy uz uA uB uC uD uE uF uG uH uI uJ uK uL uM uN uO uP uQ uR uS uT uU uV uW uX uY sI sJ sK sL sM sN sO sP sQ sR sS sT sU sV
end Go.Proofs.Ythjamlponejffaa
namespace Go.Proofs.Ythjamlponejffaa
set_option linter.unusedVariables false
set_option linter.unusedSimpArgs false
open Go.RowKit
theorem dn (n : Nat) (f : Nat → Bool) : (b9 n fun i=>if i < 0 then f i else false) = List.replicate n false:=by
 refine (gA (by simp) fun k hk=>?_).symm
 simp [gb,List.getD_eq_getElem?_getD,List.getElem?_replicate,hk]
theorem ks (n : Nat) (f : Nat → Int) : (tab n fun i=>if i < 0 then f i else 0) = List.replicate n 0:=by
 refine (jc (by simp) fun k hk=>?_).symm
 simp [gi,List.getD_eq_getElem?_getD,List.getElem?_replicate,hk]
theorem iZ {n k : Nat} {f d : Nat → Bool} {v : Bool} (hk : k < n) (hv : v = f k) : (b9 n fun i=>if i < k + 1 then f i else d i) = (b9 n fun i=>if i < k then f i else d i).set k v:=by
 rw [hv];exact (mz hk).symm
theorem ma {n k : Nat} {f d : Nat → Int} {v : Int} (hk : k < n) (hv : v = f k) : (tab n fun i=>if i < k + 1 then f i else d i) = (tab n fun i=>if i < k then f i else d i).set k v:=by
 rw [hv];exact (gN hk).symm
theorem fh {n k : Nat} {f d : Nat → Bool} (hk : n ≤ k) : (b9 n fun i=>if i < k then f i else d i) = b9 n f:=ct fun j hj=>if_pos (by omega)
theorem kt {n k : Nat} {f d : Nat → Int} (hk : n ≤ k) : (tab n fun i=>if i < k then f i else d i) = tab n f:=aU fun j hj=>if_pos (by omega)
end Go.Proofs.Ythjamlponejffaa
namespace Go.Proofs.Ythjamlponejffaa
set_option linter.unusedVariables false
set_option linter.unusedSimpArgs false
open Go.RowKit
theorem gu {O : Nat → Prop} {w : World} {c : C} {V : View} {sa : Option Addr} {n cp : Nat} {vs : Nat → Value} (hO : ∀ b,¬ O b) (hv : c.view = some V) (hl : V.len = n) (hwd : V.wd = 1) (hn : c.isNN = false) (h : Cells w sa n cp vs) (hr : ∀ i,i < n → Rd O w (V.at' i 0) (vs i)) : Rd O w c (.slice sa n cp):=by
 subst hl
 refine .sl (vs:=fun i _=>vs i) hv (fun e=>by rw [hn] at e;cases e) h.cap h.max h.nil (fun ad e hpos=>?_) (fun ad e i hi j hj=>?_) (fun i hi j hj=>?_)
 · obtain ⟨b,o,e',hb,_⟩:=h.get hpos
   rw [e] at e';injection e' with e';subst e'
   exact ⟨rfl,hO _,hb⟩
 · have : j = 0:=by omega
   subst this
   rw [hwd,Nat.mul_one,Nat.add_zero]
   exact h.cell ad e i hi
 · have : j = 0:=by omega
   subst this
   exact hr i hi
theorem t5 {O : Nat → Prop} {w : World} {v : Value} {xs : List Int} (hO : ∀ b,¬ O b) (h : IsI w v xs) : Rd O w (.I xs) v:=by
 obtain ⟨sa,n,c,rfl,hl,h⟩:=h
 exact gu hO rfl hl rfl rfl h fun i hi=>.int _ _
theorem t6 {O : Nat → Prop} {w : World} {v : Value} {xss : List (List Int)} (hO : ∀ b,¬ O b) (h : cX w v xss) : Rd O w (.R xss) v:=by
 obtain ⟨sa,n,c,rfl,hl,A,L,C,h,hk⟩:=h
 exact gu hO rfl hl rfl rfl h fun i hi=>t5 hO (hk i hi).is
theorem ku {O : Nat → Prop} {w : World} {c : C} {V : View} {v : Value} (h : Rd O w c v) (hv : c.view = some V) (hwd : V.wd = 1) : ∃ sa n cp vs,v = .slice sa n cp ∧ n = V.len ∧ Cells w sa n cp vs ∧ ∀ i,i < V.len → Rd O w (V.at' i 0) (vs i):=by
 cases h with
 | sl hv' hn hc hm h0 hs cell rec =>
   rw [hv] at hv';injection hv' with hv';subst hv'
   refine ⟨_,_,_,fun i=>_,rfl,rfl,⟨hc,hm,h0,fun ad e hpos=>(hs ad e hpos).1,fun ad e k hk=>?_⟩,fun i hi=>rec i hi 0 (by omega)⟩
   have:=cell ad e k hk 0 (by omega)
   rw [hwd,Nat.mul_one,Nat.add_zero] at this
   exact this
 | _ => simp [C.view] at hv
theorem p9 {O : Nat → Prop} {w : World} {v : Value} {xs : List Int} (h : Rd O w (.I xs) v) : IsI w v xs:=by
 obtain ⟨sa,n,cp,vs,rfl,rfl,hc,hr⟩:=ku h rfl rfl
 refine ⟨sa,_,cp,rfl,rfl,hc.cap,hc.max,hc.nil,hc.spot,fun ad e k hk=>?_⟩
 have h1:=hr k hk
 rw [hc.cell ad e k hk]
 revert h1
 generalize vs k = u
 intro h1
 cases h1 with
 | sl hv' => simp [C.view] at hv'
 | _ => rfl
theorem t7 {O : Nat → Prop} {w : World} {v : Value} {xss : List (List Int)} (h : Rd O w (.R xss) v) : cX w v xss:=by
 obtain ⟨sa,n,cp,vs,rfl,rfl,hc,hr⟩:=ku h rfl rfl
 have key : ∀ i,i < xss.length → ∃ a l c,vs i = .slice a l c ∧ cg w a l c (gr xss i):=fun i hi=>by
  obtain ⟨a,l,c,e,h⟩:=p9 (hr i hi)
  exact ⟨a,l,c,e,h⟩
 let A : Nat → Option Addr:=fun i=>match vs i with | .slice a _ _=>a | _=>none
 let L : Nat → Nat:=fun i=>match vs i with | .slice _ l _=>l | _=>0
 let K : Nat → Nat:=fun i=>match vs i with | .slice _ _ c=>c | _=>0
 have eA : ∀ i,i < xss.length → vs i = .slice (A i) (L i) (K i) ∧ cg w (A i) (L i) (K i) (gr xss i):=fun i hi=>by
  obtain ⟨a,l,c,e,h⟩:=key i hi
  have e1 : A i = a:=by show (match vs i with | .slice a _ _=>a | _=>none) = a;rw [e]
  have e2 : L i = l:=by show (match vs i with | .slice _ l _=>l | _=>0) = l;rw [e]
  have e3 : K i = c:=by show (match vs i with | .slice _ _ c=>c | _=>0) = c;rw [e]
  rw [e1,e2,e3];exact ⟨e,h⟩
 refine ⟨sa,_,cp,rfl,rfl,A,L,K,⟨hc.cap,hc.max,hc.nil,hc.spot,fun ad e k hk=>?_⟩,fun k hk=>(eA k hk).2⟩
 rw [hc.cell ad e k hk,(eA k hk).1]
abbrev arA (a : Ar) : AV:=.agg [.c (.I a.own),.c (.R a.nxt)]
abbrev paA (g : Pa) : AV:=.agg [.c (.I g.ar.own),.c (.R g.ar.nxt),.c (.I g.prio)]
inductive AVs (φ : Nat → Loc) (hp : Hp) (w : World) : List AV → List Value → Prop where
 | nil : AVs φ hp w [] []
 | cons {a : AV} {v : Value} {l : List AV} {m : List Value} (h : AVC φ hp w a v) (t : AVs φ hp w l m) : AVs φ hp w (a :: l) (v :: m)
theorem AVs.at {φ : Nat → Loc} {hp : Hp} {w : World} {l : List AV} {m : List Value} (h : AVs φ hp w l m) : m.length = l.length ∧ ∀ i,i < l.length → AVC φ hp w (l.getD i .any) (m.getD i undef):=by
 induction h with
 | nil => exact ⟨rfl, fun i h => by simp at h⟩
 | cons h t ih =>
   refine ⟨by simp [ih.1],fun i hi=>?_⟩
   cases i with
   | zero => exact h
   | succ i => exact ih.2 i (by simpa using hi)
theorem AVs.of {φ : Nat → Loc} {hp : Hp} {w : World} : ∀ {l : List AV} {m : List Value},m.length = l.length → (∀ i,i < l.length → AVC φ hp w (l.getD i .any) (m.getD i undef)) → AVs φ hp w l m
 | [], [], _, _ => .nil
 | a :: l, v :: m, hl, h => .cons (h 0 (by simp)) (AVs.of (by simpa using hl) fun i hi => h (i + 1) (by simpa using hi))
theorem mb {φ : Nat → Loc} {hp : Hp} {w : World} {l : List AV} {v : Value} (h : AVC φ hp w (.agg l) v) : ∃ vs : List Value,v = .agg vs.toArray ∧ AVs φ hp w l vs:=by
 obtain ⟨vs,rfl,h1,h2⟩:=eX h
 exact ⟨vs,rfl,.of h1 h2⟩
theorem jG {φ : Nat → Loc} {hp : Hp} {w : World} {l : List AV} {vs : List Value} (h : AVs φ hp w l vs) : AVC φ hp w (.agg l) (.agg vs.toArray):=.agg h.at.1 h.at.2
theorem qa {φ : Nat → Loc} {hp : Hp} {w : World} {v : Value} {g : Pa} (h : AVC φ hp w (paA g) v) : IsP w v g:=by
 obtain ⟨vs,e,h'⟩:=mb h
 subst e
 match vs,h' with
 | [x, y, z], .cons h1 (.cons h2 (.cons h3 .nil)) => exact ⟨x, y, z, rfl, p9 (dw h1), t7 (dw h2), p9 (dw h3)⟩
abbrev h00 : Hp:=fun _=>none
abbrev φ00 : Nat → Loc:=fun _=>.nil
theorem qV (b : Nat) : ¬ Own φ00 h00 b:=fun ⟨_,⟨_,h,_⟩,_⟩=>by cases h
theorem r8 (w : World) : HC φ00 h00 w.heap.size w w :=
 ⟨Below.refl _ _,Nat.le_refl _,⟨0,fun _ _=>rfl⟩,(fun _ _ h=>by cases h),(fun _ _ _ _ ⟨_,h,_⟩=>by cases h),(fun _ _ ⟨_,h,_⟩=>by cases h)⟩
theorem kv {w : World} {v : Value} {xs : List Int} (h : IsI w v xs) : AVC φ00 h00 w (.c (.I xs)) v:=.c (t5 qV h)
theorem qW {w : World} {v : Value} {xs : List (List Int)} (h : cX w v xs) : AVC φ00 h00 w (.c (.R xs)) v:=.c (t6 qV h)
theorem vv {w : World} (k : IntKind) (n : Int) : AVC φ00 h00 w (.c (.int k n)) (.int k n):=.c (.int k n)
theorem vw {w : World} {v : Value} {a : Ar} (h : IsA w v a) : AVC φ00 h00 w (arA a) v:=by
 obtain ⟨x,y,rfl,h1,h2⟩:=h
 exact jG (vs:=[x,y]) (.cons (kv h1) (.cons (qW h2) .nil))
theorem oA {w : World} {v : Value} {g : Pa} (h : IsP w v g) : AVC φ00 h00 w (paA g) v:=by
 obtain ⟨x,y,z,rfl,h1,h2,h3⟩:=h
 exact jG (vs:=[x,y,z]) (.cons (kv h1) (.cons (qW h2) (.cons (kv h3) .nil)))
section
variable {P : Program} {f : FuncId} {args : List AV}
theorem jH {fn : Func} (hf : P.funcs[f]? = some fn) (hb : fn.body.isNone = false) (hname : (fn.name == "runtime.NumGoroutine") = false) {c : C} {u : Value} (hu : ∀ (O : Nat → Prop) w, Rd O w c u)
  (h : ∀ φ hp w (vs : List Value),AVs φ hp w args vs → Calls P f vs.toArray w fun e w'=>e = .returned u ∧ Below w.heap.size w w') : au P f args [] fun _=>.c c:=by
 refine ⟨⟨fn,hf,hb,hname⟩,fun φ0 hp0 w vs hX H hl hv=>(h φ0 hp0 w vs (.of hl hv)).mono fun e w' ⟨he,hbw⟩=>⟨u,he,?_⟩⟩
 intro ν hl hn hf
 have : ν = []:=List.eq_nil_of_length_eq_zero hl
 subst this
 have hE : Evo φ0 hp0 w φ0 (bM (aM hp0 []) [] []) w':=⟨fun ν e he=>⟨e,he,.inr ⟨rfl,rfl⟩⟩,fun b hb ho=>⟨hbw.block b hb,ho⟩,hbw.size,fun b hb _=>hbw.block b hb⟩
 refine ⟨φ0,⟨hbw,hbw.size,H.fin,fun ν e he=>?_,H.sep,fun ν b hm hb'=>H.lo ν b hm hb'⟩,hE,.c (hu _ _)⟩
 exact (H.ent ν e he).evo hE fun hk b hb'=>hbw.block b (H.lt ⟨e,he,hk⟩ hb')
theorem mc {c : C} {w : World} {vs : List Value} (hF : au P f args [] fun _=>.c c) (hv : AVs φ00 h00 w args vs) : Calls P f vs.toArray w fun e w'=>∃ v,e = .returned v ∧ (∃ O : Nat → Prop,Rd O w' c v) ∧ Below w.heap.size w w':=by
 refine (hF.2 φ00 h00 w vs (fun _ _ h=>by cases h) (r8 w) hv.at.1 hv.at.2).mono fun e w' ⟨v,he,ho⟩=>⟨v,he,?_⟩
 obtain ⟨φ',H,_,ha⟩:=ho [] rfl List.nodup_nil (fun _ h=>by cases h)
 exact ⟨⟨_,dw ha⟩,H.fr⟩
theorem qb {b : Bool} {w : World} {vs : List Value} (hF : au P f args [] fun _=>.c (.bool b)) (hv : AVs φ00 h00 w args vs) : Calls P f vs.toArray w fun e w'=>e = .returned (.bool b) ∧ Below w.heap.size w w' :=
 (mc hF hv).mono fun e w' ⟨v,he,⟨O,h⟩,hb⟩=>by
  cases h with
  | sl hv' => simp [C.view] at hv'
  | _ => exact ⟨he, hb⟩
theorem qc {k : IntKind} {n : Int} {w : World} {vs : List Value} (hF : au P f args [] fun _=>.c (.int k n)) (hv : AVs φ00 h00 w args vs) : Calls P f vs.toArray w fun e w'=>e = .returned (.int k n) ∧ Below w.heap.size w w' :=
 (mc hF hv).mono fun e w' ⟨v,he,⟨O,h⟩,hb⟩=>by
  cases h with
  | sl hv' => simp [C.view] at hv'
  | _ => exact ⟨he, hb⟩
end
theorem qd {φ : Nat → Loc} {hp : Hp} {w : World} {loc : Loc} {T : TypeId} {nn : Fl} {c : C} {V : View} {vs : List Value} (h : gc φ hp w loc (.arr T nn c)) (hh : nn.hd = true) (hv : c.view = some V) (hwd : V.wd = 1) {lo : Nat} (hlo : ∀ b,loc.blk = some b → lo ≤ b) (hl : vs.length = V.len) (hr : ∀ i v,i < V.len → Rd (Own φ hp) w (V.at' i 0) v → v = vs.getD i undef) : ay T lo w.heap.size w loc.val vs:=by
 obtain ⟨V',hv',_,⟨h0,h1,_⟩|⟨g,o,cp,cur,h0,h1,h2,h3,h4,h5,h6⟩⟩:=h
 · rw [hv] at hv';injection hv' with hv';subst hv'
   exact .inl ⟨by rw [h0];rfl,List.eq_nil_of_length_eq_zero (by omega)⟩
 · rw [hv] at hv';injection hv' with hv';subst hv'
   obtain ⟨rfl,h7⟩:=h5 hh
   rw [hwd,Nat.mul_one] at h7
   have hb : loc.blk = some g:=by rw [h0];rfl
   refine .inr ⟨g,cp,cur,by rw [h0,hl];rfl,hlo g hb,(Array.getElem?_eq_some_iff.1 h1).1,h1,by omega,(by unfold maxLen;omega),h7.symm,?_⟩
   refine List.ext_getElem (by simp;omega) fun i i1 i2=>?_
   obtain ⟨v,k1,k2⟩:=h6 i (by omega) 0 (by omega)
   have:=hr i v (by omega) k2
   rw [hwd,Nat.mul_one,Nat.add_zero,Nat.zero_add] at k1
   rw [List.getElem_take]
   obtain ⟨k3,k4⟩:=Array.getElem?_eq_some_iff.1 k1
   rw [Array.getElem_toList,k4,this,List.getD_eq_getElem?_getD,List.getElem?_eq_getElem i2]
   rfl
theorem oB {O : Nat → Prop} {T : TypeId} {lo hi : Nat} {w : World} {v : Value} {us : List Value} (d : Value) (h : ay T lo hi w v us) (hO : ∀ b,lo ≤ b → ¬ O b) {c : C} {V : View} (hv : c.view = some V) (hl : V.len = us.length) (hwd : V.wd = 1) (hn : c.isNN = false)
  (hr : ∀ i,i < us.length → Rd O w (V.at' i 0) (us.getD i d)) : Rd O w c v:=by
 have hlt:=h.lt
 obtain ⟨sa,cp,rfl,hc⟩:=h.form d
 rw [← hl] at hc hr ⊢
 refine .sl (vs:=fun i _=>us.getD i d) hv (fun e=>by rw [hn] at e;cases e) hc.cap hc.max hc.nil (fun ad e hpos=>?_) (fun ad e i hi j hj=>?_) (fun i hi j hj=>?_)
 · obtain ⟨b,o,e',hb,_⟩:=hc.get hpos
   rw [e] at e';injection e' with e';subst e'
   subst e
   exact ⟨rfl,hO _ (hlt b rfl).1,hb⟩
 · have : j = 0:=by omega
   subst this
   rw [hwd,Nat.mul_one,Nat.add_zero]
   exact hc.cell ad e i hi
 · have : j = 0:=by omega
   subst this
   exact hr i hi
theorem md {O : Nat → Prop} {lo hi : Nat} {w : World} {v : Value} {xs : List Int} (h : ax lo hi w v xs) (hO : ∀ b,lo ≤ b → ¬ O b) : Rd O w (.I xs) v :=
 oB (.int .i64 0) h hO rfl (by simp) rfl rfl fun i hi=>by rw [fX];exact .int _ _
end Go.Proofs.Ythjamlponejffaa
namespace Go.Proofs.Ythjamlponejffaa
set_option linter.unusedVariables false
set_option linter.unusedSimpArgs false
open Go.RowKit
section
variable {P : Program} {ti : TI} {N : Nat} {hB hp0 : Hp} {ν : Nat → Nat} {S : List Fr} {Q : fl}
variable {L : List Ent} {ns νs : List Nat}
abbrev SV (hp0 : Hp) (ν : Nat → Nat) (L : List Ent) (ns νs : List Nat) : AV → AV → Prop:=SubV (hpL hp0 ν L) ns νs
inductive SVs (hp0 : Hp) (ν : Nat → Nat) (L : List Ent) (ns νs : List Nat) : List AV → List AV → Prop where
 | nil : SVs hp0 ν L ns νs [] []
 | cons {a b : AV} {l m : List AV} (h : SV hp0 ν L ns νs a b) (t : SVs hp0 ν L ns νs l m) : SVs hp0 ν L ns νs (a :: l) (b :: m)
theorem SVs.at {l m : List AV} (h : SVs hp0 ν L ns νs l m) : m.length = l.length ∧ ∀ i,i < l.length → SV hp0 ν L ns νs (l.getD i .any) (m.getD i .any):=by
 induction h with
 | nil => exact ⟨rfl, fun i h => by simp at h⟩
 | cons h t ih =>
   refine ⟨by simp [ih.1],fun i hi=>?_⟩
   cases i with
   | zero => exact h
   | succ i => exact ih.2 i (by simpa using hi)
theorem qe (c : C) : SV hp0 ν L ns νs (.c c) (.c c):=.rd (.refl c)
theorem me {c c' : C} (h : c = c') : SV hp0 ν L ns νs (.c c) (.c c'):=by subst h;exact .rd (.refl c)
theorem jI (c : C) : SV hp0 ν L ns νs (.c (.nn c)) (.c c):=.rd (.unn c)
theorem jJ {c : C} {V : View} (hv : c.view = some V) (h0 : V.len = 0) (hn : c.isNN = false) : SV hp0 ν L ns νs (.c .nul) (.c c):=.rd (.nul hv h0 hn)
theorem mf (hN : Nm hp0 ν) {i : Nat} {T : TypeId} {nn : Fl} {c c' : C} (h : L[i]? = some (.arr T nn c)) (h' : ¬ ν i ∈ ns) (hc : c = c') : SV hp0 ν L ns νs (.sl (ν i)) (.c c'):=by
 subst hc
 refine .fz (by rw [am hN];exact h) h' ?_
 split
 · exact .unn c
 · exact .refl c
theorem mg {x y : Nat} (i : Nat) (hi : i < ns.length) (hx : x = ns.getD i 0) (hy : y = νs.getD i 0) : SV hp0 ν L ns νs (.sl x) (.sl y):=by subst hx;subst hy;exact .sl i hi
theorem jK {l m : List AV} (h : SVs hp0 ν L ns νs l m) : SV hp0 ν L ns νs (.agg l) (.agg m):=.agg h.at.1 h.at.2
theorem jL {l m : List AV} (h : SVs hp0 ν L ns νs l m) : SV hp0 ν L ns νs (.tup l) (.tup m):=.tup h.at.1 h.at.2
inductive Gone (ν : Nat → Nat) (L : List Ent) : List Nat → List Ent → Prop where
 | nil : Gone ν L [] []
 | cons {i : Nat} {T : TypeId} {nn nn' : Fl} {c c' : C} {ns : List Nat} {nw : List Ent} (h : L[i]? = some (.arr T nn c)) (hn : ((!nn'.nn || nn.nn) && (!nn'.hd || nn.hd)) = true) (hc : c = c') (t : Gone ν L ns nw) : Gone ν L (i :: ns) (.arr T nn' c' :: nw)
theorem Gone.at (hN : Nm hp0 ν) {is : List Nat} {nw : List Ent} (h : Gone ν L is nw) : is.length = nw.length ∧ ∀ i,i < (is.map ν).length → ∃ T nn nn' c,hpL hp0 ν L ((is.map ν).getD i 0) = some (.arr T nn c) ∧ nw.getD i .dead = .arr T nn' c ∧ ((nn'.nn = true → nn.nn = true) ∧ (nn'.hd = true → nn.hd = true)):=by
 induction h with
 | nil => exact ⟨rfl, fun i hi => by simp at hi⟩
 | cons h hn hc t ih =>
   subst hc
   refine ⟨by simp [ih.1],fun i hi=>?_⟩
   cases i with
   | zero => exact ⟨_, _, _, _, by rw [List.map_cons, List.getD_cons_zero, am hN]; exact h, rfl, ou hn⟩
   | succ i => exact ih.2 i (by simpa using hi)
theorem oC (hN : Nm hp0 ν) {is : List Nat} (h : is.Nodup) : (is.map ν).Nodup:=by
 induction is with
 | nil => exact List.nodup_nil
 | cons i is ih =>
   obtain ⟨h1,h2⟩:=List.nodup_cons.1 h
   rw [List.map_cons,List.nodup_cons]
   refine ⟨fun hm=>?_,ih h2⟩
   obtain ⟨j,k1,k2⟩:=List.mem_map.1 hm
   have:=hN.inj _ _ k2
   subst this;exact h1 k1
theorem mj {fn : Func} (hN : Nm hp0 ν) (is : List Nat) (his : is.Nodup) {tm : Nat → AV} {e : Exit} {nw : List Ent} {val : List Nat → AV} {r : AV} (he : e = .normal ∨ e = .ret) (hr : bW ti tm (hpL hp0 ν L) fn.results.toList = some r) (hg : Gone ν L is nw) (hv : ∀ νs : List Nat,νs.length = is.length → SV hp0 ν L (is.map ν) νs r (val νs)) :
  m7 ti fn hp0 nw val e tm (hpL hp0 ν L) :=
 tU he hr (lw (is.map ν) (oC hN his) (by rw [List.length_map];exact (hg.at hN).1) (hg.at hN).2 fun νs h=>hv νs (by rw [h,List.length_map]))
theorem jM (hN : Nm hp0 ν) {i : Nat} {is : List Nat} (h : ¬ i ∈ is) : ¬ ν i ∈ is.map ν:=fun hm=>by
 obtain ⟨j,h1,h2⟩:=List.mem_map.1 hm
 have:=hN.inj _ _ h2
 subst this;exact h h1
end
section
variable {hp0 : Hp} {ν : Nat → Nat} {L : List Ent} {ti : TI} {fn : Func} {l : List (Nat × AV)} {t T i off : Nat} {cells : List AV} {r a : AV}
theorem fQ {hp : Hp} (h1 : fn.results.toList = [.tmp t]) (h2 : l.lookup t = some a) : bW ti (tmL l) hp fn.results.toList = some a:=by
 have e : tmL l t = a:=by unfold tmL;rw [h2]
 rw [h1]
 simp only [bW,b7,cf,e]
theorem fi (hN : Nm hp0 ν) (h1 : fn.results.toList = [.cell t T]) (h2 : l.lookup t = some (.ad (ν i) off)) (h3 : L[i]? = some (.box cells)) (h4 : cj ti T cells off = some r) : bW ti (tmL l) (hpL hp0 ν L) fn.results.toList = some r:=by
 have e : tmL l t = .ad (ν i) off:=by unfold tmL;rw [h2]
 rw [h1]
 simp only [bW,b7,cf,e,am hN,h3,h4]
theorem ec {s : Nat} (hN : Nm hp0 ν) (h1 : fn.results.toList = [.cell t T,.tmp s]) (h2 : l.lookup t = some (.ad (ν i) off)) (h3 : L[i]? = some (.box cells)) (h4 : cj ti T cells off = some r) (h5 : l.lookup s = some a) : bW ti (tmL l) (hpL hp0 ν L) fn.results.toList = some (.tup [r,a]):=by
 have e : tmL l t = .ad (ν i) off:=by unfold tmL;rw [h2]
 have e' : tmL l s = a:=by unfold tmL;rw [h5]
 rw [h1]
 simp only [bW,b7,cf,e,am hN,h3,h4,e']
theorem bg {i j : Nat} (hN : Nm hp0 ν) (h : i ≠ j) : ¬ ν i ∈ [ν j]:=fun hm=>h (hN.inj _ _ (List.mem_singleton.1 hm))
end
end Go.Proofs.Ythjamlponejffaa
namespace Go.Proofs.Ythjamlponejffaa
set_option linter.unusedVariables false
set_option linter.unusedSimpArgs false
open Go.RowKit
section
variable {P : Program} {ti : TI}
inductive ArgM (hp : Hp) (xs : List Nat) : AV → AV → Prop where
 | v {a a' : AV} (h : ArgV hp a a') (hn : ∀ y, y ∈ a.names → ¬ y ∈ xs) : ArgM hp xs a a'
 | sl {x : Nat} (h : x ∈ xs) : ArgM hp xs (.sl x) (.sl x)
 | ad {x off : Nat} (h : x ∈ xs) : ArgM hp xs (.ad x off) (.ad x off)
 | agg {l l' : List AV} (hl : l'.length = l.length) (h : ∀ i, i < l.length → ArgM hp xs (l.getD i .any) (l'.getD i .any)) : ArgM hp xs (.agg l) (.agg l')
def t8 (hp : Hp) (x : Nat) : Ent → Prop
 | .box l => hp x = some (.box l)
 | .arr T nn c => ∃ nn', hp x = some (.arr T nn' c) ∧ ((nn.nn = true → nn'.nn = true) ∧ (nn.hd = true → nn'.hd = true))
 | _ => False
theorem t8.kind {hp : Hp} {x : Nat} {e : Ent} (h : t8 hp x e) : ∃ e',hp x = some e' ∧ e'.kind = e.kind ∧ e.kind < 2:=by
 cases e with
 | box l => exact ⟨_, h, rfl, by simp [Ent.kind]⟩
 | arr T nn c => obtain ⟨nn', h, _⟩ := h; exact ⟨_, h, rfl, by simp [Ent.kind]⟩
 | dead => exact h.elim
 | ext => exact h.elim
end
section
variable {hp0 : Hp} {ν : Nat → Nat} {L : List Ent}
inductive ArgMs (hp : Hp) (xs : List Nat) : List AV → List AV → Prop where
 | nil : ArgMs hp xs [] []
 | cons {a b : AV} {l m : List AV} (h : ArgM hp xs a b) (t : ArgMs hp xs l m) : ArgMs hp xs (a :: l) (b :: m)
theorem ArgMs.at {hp : Hp} {xs : List Nat} {l m : List AV} (h : ArgMs hp xs l m) : m.length = l.length ∧ ∀ i,i < l.length → ArgM hp xs (l.getD i .any) (m.getD i .any):=by
 induction h with
 | nil => exact ⟨rfl, fun i h => by simp at h⟩
 | cons h t ih =>
   refine ⟨by simp [ih.1],fun i hi=>?_⟩
   cases i with
   | zero => exact h
   | succ i => exact ih.2 i (by simpa using hi)
end
theorem vI {hp0 : Hp} {ν : Nat → Nat} {s : List (Nat × Nat)} {L L' : List Ent} (n : Nat) : LEs hp0 ν s L L' n []:=.nil n
theorem vJ {hp0 : Hp} {ν : Nat → Nat} {s : List (Nat × Nat)} {L L' : List Ent} {tm : List (Nat × AV)} : LTs hp0 ν s L L' tm []:=.nil
theorem vK {hp0 : Hp} {ν : Nat → Nat} {s : List (Nat × Nat)} {L L' : List Ent} : LVs hp0 ν s L L' [] []:=.nil
theorem bD {hp0 : Hp} {ν : Nat → Nat} {s : List (Nat × Nat)} {L L' : List Ent} {n : Nat} {e : Ent} {l : List Ent} (h : LE hp0 ν s L L' n e) (t : LEs hp0 ν s L L' (n + 1) l) : LEs hp0 ν s L L' n (e :: l):=.cons h t
theorem bE {hp0 : Hp} {ν : Nat → Nat} {s : List (Nat × Nat)} {L L' : List Ent} {a b : AV} {l m : List AV} (h : LV hp0 ν s L L' a b) (t : LVs hp0 ν s L L' l m) : LVs hp0 ν s L L' (a :: l) (b :: m):=.cons h t
theorem bF {hp0 : Hp} {ν : Nat → Nat} {s : List (Nat × Nat)} {L L' : List Ent} {tm : List (Nat × AV)} {t : Nat} {a b : AV} {l : List (Nat × AV)} (e : tm.lookup t = some a) (h : LV hp0 ν s L L' a b) (r : LTs hp0 ν s L L' tm l) : LTs hp0 ν s L L' tm ((t,b) :: l):=.cons e h r
theorem aJ (c : C) : dR c c:=.refl c
theorem aK (c : C) : dR (.nn c) c:=.unn c
theorem qf {a b : List Bool} (h : a = b) : C.B a = C.B b:=congrArg C.B h
theorem oD {a b : List Int} (h : a = b) : C.I a = C.I b:=congrArg C.I h
theorem qg {a b : List (List Int)} (h : a = b) : C.R a = C.R b:=congrArg C.R h
theorem oE {k : IntKind} {a b : Int} (h : a = b) : C.int k a = C.int k b:=congrArg (C.int k) h
theorem qi {a b : Bool} (h : a = b) : C.bool a = C.bool b:=congrArg C.bool h
class XSt (p : Prop) (q : outParam Prop) : Prop where
 st : q → p
theorem stZ {p q : Prop} [XSt p q] (h : q) : p:=XSt.st h
class XSu (p : Prop) (q : outParam Prop) : Prop where
 su : q → p
theorem suZ {p q : Prop} [XSu p q] (h : q) : p:=XSu.su h
class XCl (p : Prop) : Prop where
 cl : p
theorem clZ {p : Prop} [XCl p] : p:=XCl.cl
class XAg (p : Prop) : Prop where
 ag : p
theorem agZ {p : Prop} [XAg p] : p:=XAg.ag
section
variable {P : Program} {ti : TI} {N : Nat} {hB hp0 : Hp} {ν : Nat → Nat} {ops : Array Oper} {S : List Fr} {Q : fl} {tm : Nat → AV} {hp : Hp} {K : (Nat → AV) → Hp → Prop}
instance xSa (x y : Code) : XSt (Aw P N hB (.seq x y) (Nx P N hB S Q) tm hp) (Aw P N hB x (Nx P N hB (.sq y :: S) Q) tm hp):=⟨tP⟩
instance xSb (y : Code) : XSt (Nx P N hB (.sq y :: S) Q .normal tm hp) (Aw P N hB y (Nx P N hB S Q) tm hp):=⟨u7⟩
instance xSc : XSt (aws P ti hp0 ν ops [] K tm hp) (K tm hp):=⟨tH⟩
instance xSd (l : Nat) : XSt (Aw P N hB (.label l) (Nx P N hB S Q) tm hp) (Nx P N hB S Q .normal tm hp):=⟨pR⟩
instance xSe (id : Nat) (c : Code) : XSt (Aw P N hB (.block id c) (Nx P N hB S Q) tm hp) (Aw P N hB c (Nx P N hB (.bk id :: S) Q) tm hp):=⟨pQ⟩
instance xSf (id : Nat) : XSt (Nx P N hB (.bk id :: S) Q .normal tm hp) (Nx P N hB S Q .normal tm hp):=⟨u9⟩
instance xSg (id : Nat) : XSt (Aw P N hB (.exit id) (Nx P N hB S Q) tm hp) (Nx P N hB S Q (.exit id) tm hp):=⟨rU⟩
instance xSh (y : Code) (i : Nat) : XSt (Nx P N hB (.sq y :: S) Q (.exit i) tm hp) (Nx P N hB S Q (.exit i) tm hp):=⟨tK⟩
instance xSi (i : Nat) : XSt (Nx P N hB (.k K :: S) Q (.exit i) tm hp) (Nx P N hB S Q (.exit i) tm hp):=⟨vb⟩
instance xSj (i : Nat) : XSt (Nx P N hB (.bk i :: S) Q (.exit i) tm hp) (Nx P N hB S Q .normal tm hp):=⟨tL⟩
instance xSk : XSt (Aw P N hB .ret (Nx P N hB S Q) tm hp) (Nx P N hB S Q .ret tm hp):=⟨tQ⟩
instance xSl (y : Code) : XSt (Nx P N hB (.sq y :: S) Q .ret tm hp) (Nx P N hB S Q .ret tm hp):=⟨tM⟩
instance xSm : XSt (Nx P N hB (.k K :: S) Q .ret tm hp) (Nx P N hB S Q .ret tm hp):=⟨vc⟩
instance xSn (id : Nat) : XSt (Nx P N hB (.bk id :: S) Q .ret tm hp) (Nx P N hB S Q .ret tm hp):=⟨tN⟩
instance xSo : XSt (Aw P N hB .skip (Nx P N hB S Q) tm hp) (Nx P N hB S Q .normal tm hp):=⟨rT⟩
instance xSp : XSt (Nx P N hB (.k K :: S) Q .normal tm hp) (K tm hp):=⟨n_k⟩
instance xSq (e : Exit) : XSt (Nx P N hB [] Q e tm hp) (Q e tm hp):=⟨tO⟩
end
section
variable {hp0 : Hp} {ν : Nat → Nat} {s : List (Nat × Nat)} {L L' : List Ent}
instance xCa (n : Nat) : XCl (LEs hp0 ν s L L' n []):=⟨.nil n⟩
instance xCb (tm : List (Nat × AV)) : XCl (LTs hp0 ν s L L' tm []):=⟨.nil⟩
instance xCc : XCl (LVs hp0 ν s L L' [] []):=⟨.nil⟩
instance xCd (a : AV) : XCl (LV hp0 ν s L L' a .any):=⟨rX a⟩
instance xCe (c : C) : XCl (LV hp0 ν s L L' (.c c) (.c c)):=⟨vi c⟩
instance xCf (i : Nat) : XCl (LE hp0 ν s L L' i .dead):=⟨pT i⟩
instance xCg (wd : Nat) (f : Nat → C) : XCl (LV hp0 ν s L L' (.el wd f) (.el wd f)):=⟨tS wd f⟩
instance xCh (v : Value) : XCl (LV hp0 ν s L L' (.k v) (.k v)):=⟨vj v⟩
instance xUa (l m : List AV) : XSu (LV hp0 ν s L L' (.agg l) (.agg m)) (LVs hp0 ν s L L' l m):=⟨rY⟩
instance xUb (f : Fn) (l m : List AV) : XSu (LV hp0 ν s L L' (.fn f l) (.fn f m)) (LVs hp0 ν s L L' l m):=⟨tT⟩
instance xUc (a b : List Bool) : XSt (C.B a = C.B b) (a = b):=⟨congrArg _⟩
instance xUd (a b : List Int) : XSt (C.I a = C.I b) (a = b):=⟨congrArg _⟩
instance xUe (a b : List (List Int)) : XSt (C.R a = C.R b) (a = b):=⟨congrArg _⟩
instance xUf (k : IntKind) (a b : Int) : XSt (C.int k a = C.int k b) (a = b):=⟨congrArg _⟩
instance xUg (a b : Bool) : XSt (C.bool a = C.bool b) (a = b):=⟨congrArg _⟩
end
section
variable {P : Program} {ti : TI} {N : Nat} {hB hp0 : Hp} {ν : Nat → Nat} {ops : Array Oper} {S : List Fr} {Q : fl} {tm : Nat → AV} {hp : Hp}
variable {o : Oper} {l : List Oper} {K : (Nat → AV) → Hp → Prop} {D : List Foot → (Nat → AV) → Hp → Prop} {acc : List Foot} {L : List (Nat × AV)} {j d e : Nat} {want : Bool}
theorem bh {id : Nat} {draw : Bool} (hT : cB P ti) (hN : Nm hp0 ν) (h : aws P ti hp0 ν l.toArray l (Nx P N hB S Q .normal) tm hp) (hd : draw = false:=by exact rfl) (hs : fN N l.toArray = true:=by kernel_rfl) : Aw P N hB (.region id l.toArray draw) (Nx P N hB S Q) tm hp:=tR hT hN hd hs h
theorem um {id : Nat} {draw : Bool} (hT : cB P ti) (hN : Nm hp0 ν) (h : awd P ti hp0 ν l.toArray l (fun acc tm hp=>lq (gp l.toArray) acc ∧ Nx P N hB S Q .normal tm hp) [] tm hp) (hd : draw = true:=by exact rfl) (hm : P.follows .mixedOrders = true:=by kernel_rfl) (hs : fN N l.toArray = true:=by kernel_rfl) (hst : nX l.toArray = true:=by kernel_rfl) : Aw P N hB (.region id l.toArray draw) (Nx P N hB S Q) tm hp:=pV hT hN hd hm hs hst h
theorem vE {X : (Nat → AV) → Hp → Prop} (hN : Nm hp0 ν) (hx : X tm hp) (h : ∃ ai,FtI ν acc ai ∧ ftB ops ai = true:=by
 apply Exists.intro;apply And.intro;(repeat' (first|apply FtI.nil|apply FI.nil|apply FI.cons|apply FtI.cons));kernel_rfl) : awd P ti hp0 ν ops [] (fun acc tm hp=>lq (gp ops) acc ∧ X tm hp) acc tm hp:=t4 hN h hx
theorem bi (h : ∀ K' : AV → Hp → Prop,(∀ a hp,aws P ti hp0 ν ops l K (tmL ((d,a) :: L)) hp → K' a hp) → dQ P ti o.op (evT (tmL L)) hp fun E=>FN hp0 ν E.nw (aM hp E.up) fun hp' ns=>K' (E.val ns) hp') (hg : o.guard = none:=by exact rfl) (hd : o.dst = some d:=by exact rfl) : aws P ti hp0 ν ops (o :: l) K (tmL L) hp:=tV hg hd h
theorem bj (h : ∀ K' : Hp → Prop,(∀ hp,aws P ti hp0 ν ops l K (tmL L) hp → K' hp) → dQ P ti o.op (evT (tmL L)) hp fun E=>FN hp0 ν E.nw (aM hp E.up) fun hp' ns=>K' hp') (hg : o.guard = none:=by exact rfl) (hd : o.dst = none:=by exact rfl) : aws P ti hp0 ν ops (o :: l) K (tmL L) hp:=tW hg hd h
theorem vF (h : ∀ K' : Foot → AV → Hp → Prop,(∀ f a hp,awd P ti hp0 ν ops l D (acc ++ [f]) (tmL ((d,a) :: L)) hp → K' f a hp) → dQ P ti o.op (evT (tmL L)) hp fun E=>FN hp0 ν E.nw (aM hp E.up) fun hp' ns=>K' ⟨rdN o.op (evT (tmL L)),E.up.map (·.1),ns⟩ (E.val ns) hp') (hg : o.guard = none:=by exact rfl) (hd : o.dst = some d:=by exact rfl) : awd P ti hp0 ν ops (o :: l) D acc (tmL L) hp:=tX hg hd h
theorem vG (h : ∀ K' : Foot → Hp → Prop,(∀ f hp,awd P ti hp0 ν ops l D (acc ++ [f]) (tmL L) hp → K' f hp) → dQ P ti o.op (evT (tmL L)) hp fun E=>FN hp0 ν E.nw (aM hp E.up) fun hp' ns=>K' ⟨rdN o.op (evT (tmL L)),E.up.map (·.1),ns⟩ hp') (hg : o.guard = none:=by exact rfl) (hd : o.dst = none:=by exact rfl) : awd P ti hp0 ν ops (o :: l) D acc (tmL L) hp:=tY hg hd h
end
attribute [go_sem ↓] aG
attribute [go_sem] beq_self_eq_true
theorem vx {P : Program} {f : FuncId} {args avs : List AV} {nw : List Ent} {val : List Nat → AV} {hp0 : Hp} {ν : Nat → Nat} {L : List Ent} {k : Eff → Prop} (hN : Nm hp0 ν) (hF : au P f args nw val) (h : k ⟨True,nw,[],val⟩) (hA : hZ (hpL hp0 ν L) avs args:=by
 (repeat' (first|(with_reducible first|exact az|refine aw ?_ ?_|exact bX _|refine aY ?_|exact a8 _|exact bA _ _|refine bz ?_|exact aW _)|exact aZ hN rfl rfl|(refine bw hN rfl ?_;first|exact dR.refl _|exact dR.unn _)|exact aX rfl rfl rfl)) <;> fail) (h1 : nw.all Ent.flat = true:=by exact rfl) (h2 : ∀ ν,(val ν).flat = true:=by exact fun _=>rfl) : ∃ E,ci P f avs (hpL hp0 ν L) E ∧ k E:=bo hF hA h1 h2 h
end Go.Proofs.Ythjamlponejffaa
