import PyProof.Rows.All
import Wide.All
import OpenK.AllK
import Wide.FinOn
import HandS.ForMost
import HandS.ForExc
import HandS.Evl
import HandS.Flow
import HandS.Style
import HandS.IsInst
import HandS.Star
import HandS.MethStar
import HandS.Property
import HandS.ClsMeth
import HandS.Lambda
import HandS.CallLocal
import HandS.SortRule
import HandS.SortInts
import HandS.TupAny
import HandS.OwnEq
import HandS.ExcInit
import HandS.ExcField
import HandS.TryMany
import HandS.GenCall
import HandS.GenList
import HandS.Codes
import HandS.Conv
import HandS.More
import PySem.Challenge.RW_skylineeffect_k87_whole_sessions_of_many
import HandS.Zip
import KE.GoesEnumKw
import PyProof.Rows.CallKwBuiltin
import KE.KDictZip
import HandS.OwnIter
import KE.GoesMore
import PyProof.RulesMatchSeq
import PyProof.Rows.TupMore
import HandS.GenYield
import KE.KExcInit
import OpenK.KOps
import HandS.EndTab
import KE.KNestM
import HandS.Words
section
set_option Elab.async false
set_option linter.all false
set_option maxRecDepth 100000
set_option maxHeartbeats 1100000
set_option autoImplicit false
/-! The data-level layer: slots and mutable objects by what they hold, no addresses of immutable things. -/
namespace K87
open PySem L2

/-- an abstract value: deep immutable data, or a value as it is -/
inductive AV where
  | d (x : PyData)
  | v (x : V)
  | e (i : Int) (y : V)
/-- a mutable object -/
inductive RO where
  | lst (xs : List AV)
  | ins (C : Addr) (fs : List (Str × AV))
  /-- a table of code objects that all bear the name q -/
  | tab (q : Str)

abbrev Mu := Addr → Option RO
abbrev Env' := List (Option AV)
def mset (μ : Mu) (p : Addr) (o : RO) : Mu := fun a => if a = p then some o else μ a
def mdel (μ : Mu) (p : Addr) : Mu := fun a => if a = p then none else μ a
theorem mset_same {μ : Mu} {p : Addr} {o : RO} : mset μ p o p = some o := if_pos rfl
theorem mset_ne {μ : Mu} {p a : Addr} {o : RO} (h : a ≠ p) : mset μ p o a = μ a := if_neg h
theorem mdel_same {μ : Mu} {p : Addr} : mdel μ p p = none := if_pos rfl
theorem mdel_ne {μ : Mu} {p a : Addr} (h : a ≠ p) : mdel μ p a = μ a := if_neg h
theorem mset_mset {μ : Mu} {p : Addr} {o u : RO} : mset (mset μ p o) p u = mset μ p u := by
  funext a; unfold mset; split <;> rfl

/-- G' holds all that G held -/
def Ext (G G' : Hp) : Prop := ∀ a o, G a = some o → G' a = some o
theorem Ext.refl (G : Hp) : Ext G G := fun _ _ h => h
theorem Ext.trans {A B C : Hp} (x : Ext A B) (y : Ext B C) : Ext A C := fun a o h => y a o (x a o h)
theorem Ext.new {G : Hp} {p : Addr} {o : HO} (h : G p = none) : Ext G (upd G p o) := fun a u e => by
  rw [upd_ne (ne_of_none e h)]; exact e
theorem Ext.rd {G G' : Hp} {a : Addr} {u : HO} (e : Ext G G') (h : Rd G a u) : Rd G' a u := by
  rcases h with h | ⟨o, h⟩
  · exact .inl (e a _ h)
  · exact .inr ⟨o, e a _ h⟩
theorem Ext.sqL {K : PySem.W.Frag} {G G' : Hp} {a : Addr} {xs : List V} (e : Ext G G') (h : SqL K G a xs) : SqL K G' a xs := h.elim (fun z => .inl (e.rd z)) .inr
theorem Ext.sqT {K : PySem.W.Frag} {G G' : Hp} {a : Addr} {xs : List V} (e : Ext G G') (h : SqT K G a xs) : SqT K G' a xs := h.elim (fun z => .inl (e.rd z)) .inr
mutual
theorem dp_ext {K : PySem.W.Frag} {G G' : Hp} (e : Ext G G') : ∀ (x : PyData) (v : V), Dp K G v x → Dp K G' v x
  | .none, _, h => by cases h; exact .non
  | .bool _, _, h => by cases h; exact .bl _
  | .int _, _, h => by cases h; exact .int _
  | .str _, _, h => by cases h; exact .str _
  | .list xs, _, h => by
    cases h with
    | lst h1 h2 => exact .lst (e.sqL h1) (dps_ext e xs _ h2)
  | .tuple xs, _, h => by
    cases h with
    | tup h1 h2 => exact .tup (e.sqT h1) (dps_ext e xs _ h2)
  | .dict _, _, h => by cases h
theorem dps_ext {K : PySem.W.Frag} {G G' : Hp} (e : Ext G G') : ∀ (xs : List PyData) (vs : List V), DpAll K G vs xs → DpAll K G' vs xs
  | [], _, h => by cases h; exact .nil
  | x :: xs, _, h => by
    cases h with
    | cons h1 h2 => exact .cons (dp_ext e x _ h1) (dps_ext e xs _ h2)
end
/-- v stands for a -/
def Rep (K : PySem.W.Frag) (G : Hp) (v : V) : AV → Prop
  | .d x => Dp K G v x
  | .v u => v = u
  | .e i y => ∃ a, v = .ref a ∧ SqT K G a [.int i, y]
abbrev Reps (K : PySem.W.Frag) (G : Hp) : List V → List AV → Prop := Paired fun v a => Rep K G v a
theorem Rep.ext {K : PySem.W.Frag} {G G' : Hp} (e : Ext G G') {v : V} {a : AV} (h : Rep K G v a) : Rep K G' v a := by
  cases a with
  | d x => exact dp_ext e x v h
  | v u => exact h
  | e i y => exact let ⟨a, h1, h2⟩ := h; ⟨a, h1, e.sqT h2⟩
theorem Reps.ext {K : PySem.W.Frag} {G G' : Hp} (e : Ext G G') {vs : List V} {as : List AV} (h : Reps K G vs as) : Reps K G' vs as := Paired.mapP h fun _ _ q => Rep.ext e q
/-- what stands at a mutable object's address -/
def ROk (K : PySem.W.Frag) (G H : Hp) (p : Addr) : RO → Prop
  | .lst xs => ∃ vs, H p = some (.lst vs) ∧ Reps K G vs xs
  | .ins C fs => ∃ dx vs, H p = some (.ins C dx vs) ∧ Paired (fun (q : Str × V) (r : Str × AV) => q.1 = r.1 ∧ Rep K G q.2 r.2) vs fs
  | .tab q => ∃ ps : Array Value, H p = some (.tbl ps) ∧ TriplesOk ps.toList ∧ ∀ (pos : Pos) (cv : Value), codeAmong pos ps.toList = some cv → ∃ c, cv = .ref c ∧ G c = some (LamX.CodeO c q)
structure MOk (K : PySem.W.Frag) (G : Hp) (μ : Mu) (H : Hp) : Prop where
  sub : Ext G H
  obj : ∀ p o, μ p = some o → G p = none ∧ ROk K G H p o
theorem ROk.there {K : PySem.W.Frag} {G H : Hp} {p : Addr} {o : RO} (h : ROk K G H p o) : ∃ u, H p = some u := by
  cases o with
  | lst xs => obtain ⟨vs, e, _⟩ := h; exact ⟨_, e⟩
  | ins C fs => obtain ⟨dx, vs, e, _⟩ := h; exact ⟨_, e⟩
  | tab q => obtain ⟨ps, e, _⟩ := h; exact ⟨_, e⟩
theorem ROk.move {K : PySem.W.Frag} {G G' H H' : Hp} {p : Addr} {o : RO} (e : Ext G G') (k : ∀ u, H p = some u → H' p = some u) (h : ROk K G H p o) : ROk K G' H' p o := by
  cases o with
  | lst xs => obtain ⟨vs, q, r⟩ := h; exact ⟨vs, k _ q, Reps.ext e r⟩
  | ins C fs => obtain ⟨dx, vs, q, r⟩ := h; exact ⟨dx, vs, k _ q, Paired.mapP r fun _ _ z => ⟨z.1, Rep.ext e z.2⟩⟩
  | tab s => obtain ⟨ps, q, ht, r⟩ := h; exact ⟨ps, k _ q, ht, fun pos cv hc => let ⟨c, h1, h2⟩ := r pos cv hc; ⟨c, h1, e _ _ h2⟩⟩
/-- slots -/
structure SR (K : PySem.W.Frag) (G : Hp) (σ : St) (ρ : Env') : Prop where
  len : σ.length = ρ.length
  get : ∀ (i : Nat) (a : AV), ρ[i]? = some (some a) → ∃ v, σ[i]? = some (some v) ∧ Rep K G v a
theorem SR.ext {K : PySem.W.Frag} {G G' : Hp} {σ : St} {ρ : Env'} (e : Ext G G') (h : SR K G σ ρ) : SR K G' σ ρ :=
  ⟨h.len, fun i a q => let ⟨v, h1, h2⟩ := h.get i a q; ⟨v, h1, Rep.ext e h2⟩⟩
theorem SR.set {K : PySem.W.Frag} {G : Hp} {σ : St} {ρ : Env'} {v : V} {a : AV} (h : SR K G σ ρ) (i : Nat) (r : Rep K G v a) : SR K G (σ.set i (some v)) (ρ.set i (some a)) := by
  refine ⟨by simp [h.len], fun j b q => ?_⟩
  by_cases e : j = i
  · subst e
    have hj : j < ρ.length := by
      have := (List.getElem?_eq_some_iff.mp q).1
      simpa using this
    rw [List.getElem?_set_self hj] at q
    cases q
    exact ⟨v, by rw [List.getElem?_set_self (by rw [h.len]; exact hj)], r⟩
  · rw [List.getElem?_set_ne (Ne.symm e)] at q
    obtain ⟨w, h1, h2⟩ := h.get j b q
    exact ⟨w, by rw [List.getElem?_set_ne (Ne.symm e)]; exact h1, h2⟩
/-- a step of the abstract state -/
structure Stp (G : Hp) (μ : Mu) (H G' : Hp) (μ' : Mu) (H' : Hp) : Prop where
  ex : Ext G G'
  keep : ∀ a o, μ a = none → H a = some o → H' a = some o
  new : ∀ a o, μ' a = some o → (∃ o', μ a = some o') ∨ H a = none
  adp : ∀ a o, μ a = none → G a = none → H a = some o → G' a = none
theorem Stp.refl (G : Hp) (μ : Mu) (H : Hp) : Stp G μ H G μ H := ⟨Ext.refl G, fun _ _ _ h => h, fun _ o h => .inl ⟨o, h⟩, fun _ _ _ h _ => h⟩
theorem Stp.trans {G G1 G2 H H1 H2 : Hp} {μ μ1 μ2 : Mu} (a : Stp G μ H G1 μ1 H1) (b : Stp G1 μ1 H1 G2 μ2 H2) : Stp G μ H G2 μ2 H2 := by
  have no : ∀ x o, μ x = none → H x = some o → μ1 x = none := fun x o h1 h2 => by
    cases q : μ1 x with
    | none => rfl
    | some u =>
      rcases a.new x u q with ⟨o', e⟩ | e
      · rw [h1] at e; cases e
      · rw [h2] at e; cases e
  refine ⟨a.ex.trans b.ex, fun x o h1 h2 => b.keep x o (no x o h1 h2) (a.keep x o h1 h2), fun x o h => ?_, fun x o h1 h2 h3 => b.adp x o (no x o h1 h3) (a.adp x o h1 h2 h3) (a.keep x o h1 h3)⟩
  rcases b.new x o h with ⟨o', e⟩ | e
  · exact a.new x o' e
  · cases q : H x with
    | none => exact .inr rfl
    | some u =>
      cases m : μ x with
      | some o' => exact .inl ⟨o', rfl⟩
      | none =>
        have := a.keep x u m q
        rw [e] at this; cases this
/-- a new object outside all -/
theorem MOk.out {K : PySem.W.Frag} {G H : Hp} {μ : Mu} {p : Addr} {o : HO} (m : MOk K G μ H) (h : H p = none) : MOk K G μ (upd H p o) :=
  ⟨fun a u e => by rw [upd_ne (ne_of_none (m.sub a u e) h)]; exact m.sub a u e, fun q r e => by
    obtain ⟨h1, h2⟩ := m.obj q r e
    exact ⟨h1, h2.move (Ext.refl G) fun u z => by rw [upd_ne (ne_of_none z h)]; exact z⟩⟩
theorem Stp.out {G H : Hp} {μ : Mu} {p : Addr} {o : HO} (h : H p = none) : Stp G μ H G μ (upd H p o) :=
  ⟨Ext.refl G, fun a u _ e => by rw [upd_ne (ne_of_none e h)]; exact e, fun _ o h => .inl ⟨o, h⟩, fun _ _ _ h _ => h⟩
theorem MOk.free {K : PySem.W.Frag} {G H : Hp} {μ : Mu} {p : Addr} (m : MOk K G μ H) (h : H p = none) : G p = none ∧ μ p = none := by
  refine ⟨?_, ?_⟩
  · cases q : G p with
    | none => rfl
    | some u => have := m.sub p u q; rw [h] at this; cases this
  · cases q : μ p with
    | none => rfl
    | some u => obtain ⟨o, e⟩ := (m.obj p u q).2.there; rw [h] at e; cases e
/-- a new immutable object -/
theorem MOk.imm {K : PySem.W.Frag} {G H : Hp} {μ : Mu} {p : Addr} {o : HO} (m : MOk K G μ H) (h : H p = none) : MOk K (upd G p o) μ (upd H p o) := by
  obtain ⟨g0, m0⟩ := m.free h
  refine ⟨fun a u e => ?_, fun q r e => ?_⟩
  · by_cases z : a = p
    · subst z; rw [upd_same] at e ⊢; exact e
    · rw [upd_ne z] at e ⊢; exact m.sub a u e
  · have z : q ≠ p := fun z => by subst z; rw [m0] at e; cases e
    obtain ⟨h1, h2⟩ := m.obj q r e
    exact ⟨by rw [upd_ne z]; exact h1, h2.move (Ext.new g0) fun u y => by rw [upd_ne z]; exact y⟩
theorem Stp.imm {K : PySem.W.Frag} {G H : Hp} {μ : Mu} {p : Addr} {o : HO} (m : MOk K G μ H) (h : H p = none) : Stp G μ H (upd G p o) μ (upd H p o) :=
  ⟨Ext.new (m.free h).1, fun a u _ e => by rw [upd_ne (ne_of_none e h)]; exact e, fun _ o h => .inl ⟨o, h⟩, fun a u _ g e => by rw [upd_ne (ne_of_none e h)]; exact g⟩
/-- a mutable object written, or a new one -/
theorem MOk.put {K : PySem.W.Frag} {G H : Hp} {μ : Mu} {p : Addr} {o : HO} {r : RO} (m : MOk K G μ H) (h : H p = none ∨ ∃ r', μ p = some r') (ok : ROk K G (upd H p o) p r) : MOk K G (mset μ p r) (upd H p o) := by
  have g0 : G p = none := h.elim (fun z => (m.free z).1) fun ⟨r', z⟩ => (m.obj p r' z).1
  refine ⟨fun a u e => by rw [upd_ne (ne_of_none e g0)]; exact m.sub a u e, fun q t e => ?_⟩
  by_cases z : q = p
  · subst z; rw [mset_same] at e; cases e; exact ⟨g0, ok⟩
  · rw [mset_ne z] at e
    obtain ⟨h1, h2⟩ := m.obj q t e
    exact ⟨h1, h2.move (Ext.refl G) fun u y => by rw [upd_ne z]; exact y⟩
theorem Stp.put {G H : Hp} {μ : Mu} {p : Addr} {o : HO} {r : RO} (h : H p = none ∨ ∃ r', μ p = some r') : Stp G μ H G (mset μ p r) (upd H p o) := by
  refine ⟨Ext.refl G, fun a u m e => ?_, fun a t e => ?_, fun _ _ _ h _ => h⟩
  · have z : a ≠ p := by
      rintro rfl
      rcases h with h | ⟨r', h⟩
      · rw [h] at e; cases e
      · rw [h] at m; cases m
    rw [upd_ne z]; exact e
  · by_cases z : a = p
    · subst z
      rcases h with h | ⟨r', h⟩
      · exact .inr h
      · exact .inl ⟨r', h⟩
    · rw [mset_ne z] at e; exact .inl ⟨t, e⟩
/-- forgotten -/
theorem MOk.drop {K : PySem.W.Frag} {G H : Hp} {μ : Mu} (p : Addr) (m : MOk K G μ H) : MOk K G (mdel μ p) H :=
  ⟨m.sub, fun q r e => by
    by_cases z : q = p
    · subst z; rw [mdel_same] at e; cases e
    · rw [mdel_ne z] at e; exact m.obj q r e⟩
theorem Stp.drop {G H : Hp} {μ : Mu} (p : Addr) : Stp G μ H G (mdel μ p) H :=
  ⟨Ext.refl G, fun _ _ _ e => e, fun a r e => by
    by_cases z : a = p
    · subst z; rw [mdel_same] at e; cases e
    · rw [mdel_ne z] at e; exact .inl ⟨r, e⟩, fun _ _ _ h _ => h⟩
/-- frozen: it never changes from here on -/
theorem MOk.freeze {K : PySem.W.Frag} {G H : Hp} {μ : Mu} {p : Addr} {o : HO} {r : RO} (m : MOk K G μ H) (h : μ p = some r) (e : H p = some o) : MOk K (upd G p o) (mdel μ p) H := by
  have g0 := (m.obj p r h).1
  refine ⟨fun a u q => ?_, fun q t z => ?_⟩
  · by_cases z : a = p
    · subst z; rw [upd_same] at q; cases q; exact e
    · rw [upd_ne z] at q; exact m.sub a u q
  · have hq : q ≠ p := fun y => by subst y; rw [mdel_same] at z; cases z
    rw [mdel_ne hq] at z
    obtain ⟨h1, h2⟩ := m.obj q t z
    exact ⟨by rw [upd_ne hq]; exact h1, h2.move (Ext.new g0) fun _ y => y⟩
theorem Stp.freeze {K : PySem.W.Frag} {G H : Hp} {μ : Mu} {p : Addr} {o : HO} {r : RO} (m : MOk K G μ H) (h : μ p = some r) : Stp G μ H (upd G p o) (mdel μ p) H :=
  ⟨Ext.new (m.obj p r h).1, fun _ _ _ e => e, fun a t e => by
    by_cases z : a = p
    · subst z; rw [mdel_same] at e; cases e
    · rw [mdel_ne z] at e; exact .inl ⟨t, e⟩, fun a u hm g e => by
    have z : a ≠ p := fun z => by subst z; rw [h] at hm; cases hm
    rw [upd_ne z]; exact g⟩

/-! ### what is wanted -/
abbrev KV' := AV → Mu → Prop
/-- an error of an own class: the class's address, its one field, the field's value -/
abbrev KF := Addr → Str → AV → Mu → Prop
abbrev F0 : KF := fun _ _ _ _ => False
def Post (K : PySem.W.Frag) (G : Hp) (μ : Mu) (H : Hp) (k : KV') (Q : VK) : Prop := ∀ v a G' μ' H', k a μ' → Stp G μ H G' μ' H' → MOk K G' μ' H' → Rep K G' v a → Q v H'
def PostT (K : PySem.W.Frag) (G : Hp) (μ : Mu) (H : Hp) (k : Bool → Mu → Prop) (Q : Bool → Hp → Prop) : Prop := ∀ b G' μ' H', k b μ' → Stp G μ H G' μ' H' → MOk K G' μ' H' → Q b H'
def PostA (K : PySem.W.Frag) (G : Hp) (μ : Mu) (H : Hp) (k : List AV → Mu → Prop) (Q : List V → Hp → Prop) : Prop := ∀ vs as G' μ' H', k as μ' → Stp G μ H G' μ' H' → MOk K G' μ' H' → Reps K G' vs as → Q vs H'
def PostF (K : PySem.W.Frag) (G : Hp) (μ : Mu) (H : Hp) (F : KF) (E : XK) : Prop := ∀ C f a v d G' μ' H', F C f a μ' → Stp G μ H G' μ' H' → MOk K G' μ' H' → Rep K G' v a → H' d = some (.xd [(f, v)]) → E (.ref C) (some d) H'
section
variable {K : PySem.W.Frag} {G G1 H H1 : Hp} {μ μ1 : Mu} (st : Stp G μ H G1 μ1 H1)
include st
theorem Post.step {k : KV'} {Q : VK} (p : Post K G μ H k Q) : Post K G1 μ1 H1 k Q := fun v a G' μ' H' h s m r => p v a G' μ' H' h (st.trans s) m r
theorem PostT.step {k : Bool → Mu → Prop} {Q : Bool → Hp → Prop} (p : PostT K G μ H k Q) : PostT K G1 μ1 H1 k Q := fun b G' μ' H' h s m => p b G' μ' H' h (st.trans s) m
theorem PostA.step {k : List AV → Mu → Prop} {Q : List V → Hp → Prop} (p : PostA K G μ H k Q) : PostA K G1 μ1 H1 k Q := fun v a G' μ' H' h s m r => p v a G' μ' H' h (st.trans s) m r
theorem PostF.step {F : KF} {E : XK} (p : PostF K G μ H F E) : PostF K G1 μ1 H1 F E := fun C f a v d G' μ' H' h s m r e => p C f a v d G' μ' H' h (st.trans s) m r e
end
theorem PostF.none {K : PySem.W.Frag} {G H : Hp} {μ : Mu} {E : XK} : PostF K G μ H F0 E := fun _ _ _ _ _ _ _ _ h => h.elim

/-! ### the code's own meaning -/
def wE (X : Cx) (e : Expr) : TE := fun σ H Q => ∀ (pins : List (Addr × Obj)) (s : Shared), Inv X pins σ H s → wpAny (model X.prog X.w) X.A (eval e X.env) (EP X pins σ Q) X.xe s
def wT (X : Cx) (e : Expr) : TT := fun σ H Q => ∀ (pins : List (Addr × Obj)) (s : Shared), Inv X pins σ H s → wpAny (model X.prog X.w) X.A (isTrue e X.env (eval e X.env)) (TP X pins σ Q) X.xe s
def wA (X : Cx) (es : List Expr) : TA := fun σ H Q => ∀ (pos : Pos) (pins : List (Addr × Obj)) (s : Shared), Inv X pins σ H s → wpAny (model X.prog X.w) X.A (spliced (backTo pos (starEach es X.env))) (AP X pins σ Q) X.xe s
def wS (X : Cx) (st : Stmt) : TS := fun D σ H => ∀ (pins : List (Addr × Obj)) (s : Shared), Inv X pins σ H s → wpAny (model X.prog X.w) X.A (exec st X.env) (SP X pins D) X.xe s
def wSs (X : Cx) (sts : List Stmt) : TS := fun D σ H => ∀ (pins : List (Addr × Obj)) (s : Shared), Inv X pins σ H s → wpAny (model X.prog X.w) X.A (execs sts X.env) (SP X pins D) X.xe s
def wG (X : Cx) (tg : Expr) : TG := fun v σ H Q => ∀ (pins : List (Addr × Obj)) (s : Shared) (u : Value), Inv X pins σ H s → RelV v u →
  wpAny (model X.prog X.w) X.A (assign tg X.env u) (fun _ s' => ∃ σ' H', Inv X pins σ' H' s' ∧ Q σ' H') X.xe s
section
variable {X : Cx} {e : Expr} {es : List Expr} {st : Stmt} {sts : List Stmt}
theorem pe_w : PE X e (wE X e) := ⟨fun pins s σ H Q I h => h pins s I⟩
theorem pt_w : PT X e (wT X e) := ⟨fun pins s σ H Q I h => h pins s I⟩
theorem pa_w : PA X es (wA X es) := ⟨fun pos pins s σ H Q I h => h pos pins s I⟩
theorem ps_w : PS X st (wS X st) := ⟨fun pins s σ H D I h => h pins s I⟩
theorem pss_w : PSs X sts (wSs X sts) := ⟨fun pins s σ H D I h => h pins s I⟩
theorem pg_w : PG X e (wG X e) := ⟨fun pins s σ H v u Q I r h => h pins s u I r⟩
theorem w_pe {t : TE} (h : PE X e t) {σ : St} {H : Hp} {Q : VK} (q : t σ H Q) : wE X e σ H Q := fun pins s I => h.run pins s σ H Q I q
theorem w_pt {t : TT} (h : PT X e t) {σ : St} {H : Hp} {Q : Bool → Hp → Prop} (q : t σ H Q) : wT X e σ H Q := fun pins s I => h.run pins s σ H Q I q
theorem w_pa {t : TA} (h : PA X es t) {σ : St} {H : Hp} {Q : List V → Hp → Prop} (q : t σ H Q) : wA X es σ H Q := fun pos pins s I => h.run pos pins s σ H Q I q
theorem w_ps {t : TS} (h : PS X st t) {σ : St} {H : Hp} {D : Ends} (q : t D σ H) : wS X st D σ H := fun pins s I => h.run pins s σ H D I q
theorem w_pss {t : TS} (h : PSs X sts t) {σ : St} {H : Hp} {D : Ends} (q : t D σ H) : wSs X sts D σ H := fun pins s I => h.run pins s σ H D I q
theorem w_pg {t : TG} (h : PG X e t) {σ : St} {H : Hp} {v : V} {Q : St → Hp → Prop} (q : t v σ H Q) : wG X e v σ H Q := fun pins s u I r => h.run pins s σ H v u Q I r q
end

/-! ### the judgements over data -/
section
variable (X : Cx) (E : XK) (F : KF)
def dE (e : Expr) (ρ : Env') (μ : Mu) (k : KV') : Prop := ∀ σ G H, SR X.K G σ ρ → MOk X.K G μ H → PostF X.K G μ H F E → ∀ Q : VK, Post X.K G μ H k Q → wE X e σ H Q
def dT (e : Expr) (ρ : Env') (μ : Mu) (k : Bool → Mu → Prop) : Prop := ∀ σ G H, SR X.K G σ ρ → MOk X.K G μ H → PostF X.K G μ H F E → ∀ Q : Bool → Hp → Prop, PostT X.K G μ H k Q → wT X e σ H Q
def dA (es : List Expr) (ρ : Env') (μ : Mu) (k : List AV → Mu → Prop) : Prop := ∀ σ G H, SR X.K G σ ρ → MOk X.K G μ H → PostF X.K G μ H F E → ∀ Q : List V → Hp → Prop, PostA X.K G μ H k Q → wA X es σ H Q
/-- what is wanted behind a statement (K87) -/
structure DN where
  nx : Env' → Mu → Prop
  rt : KV'
  bk : Env' → Mu → Prop := fun _ _ => False
  ct : Env' → Mu → Prop := fun _ _ => False
def PostS (K : PySem.W.Frag) (G : Hp) (μ : Mu) (H : Hp) (k : Env' → Mu → Prop) (Q : St → Hp → Prop) : Prop := ∀ σ' ρ' G' μ' H', k ρ' μ' → Stp G μ H G' μ' H' → MOk K G' μ' H' → SR K G' σ' ρ' → Q σ' H'
structure PostD (K : PySem.W.Frag) (G : Hp) (μ : Mu) (H : Hp) (N : DN) (D : Ends) : Prop where
  nx : PostS K G μ H N.nx D.nx
  rt : Post K G μ H N.rt D.rt
  bk : PostS K G μ H N.bk D.bk
  ct : PostS K G μ H N.ct D.ct
def dS (st : Stmt) (ρ : Env') (μ : Mu) (N : DN) : Prop := ∀ σ G H, SR X.K G σ ρ → MOk X.K G μ H → PostF X.K G μ H F E → ∀ D, PostD X.K G μ H N D → wS X st D σ H
def dSs (sts : List Stmt) (ρ : Env') (μ : Mu) (N : DN) : Prop := ∀ σ G H, SR X.K G σ ρ → MOk X.K G μ H → PostF X.K G μ H F E → ∀ D, PostD X.K G μ H N D → wSs X sts D σ H
def dG (tg : Expr) (a : AV) (ρ : Env') (μ : Mu) (k : Env' → Mu → Prop) : Prop := ∀ v σ G H, Rep X.K G v a → SR X.K G σ ρ → MOk X.K G μ H → PostF X.K G μ H F E → ∀ Q, PostS X.K G μ H k Q → wG X tg v σ H Q
end
section
variable {K : PySem.W.Frag} {G G1 H H1 : Hp} {μ μ1 : Mu} (st : Stp G μ H G1 μ1 H1)
include st
theorem PostS.step {k : Env' → Mu → Prop} {Q : St → Hp → Prop} (p : PostS K G μ H k Q) : PostS K G1 μ1 H1 k Q := fun σ' ρ' G' μ' H' h s m r => p σ' ρ' G' μ' H' h (st.trans s) m r
theorem PostD.step {N : DN} {D : Ends} (p : PostD K G μ H N D) : PostD K G1 μ1 H1 N D := ⟨p.nx.step st, p.rt.step st, p.bk.step st, p.ct.step st⟩
end
end K87
end

section
set_option Elab.async false
set_option linter.all false
set_option maxRecDepth 100000
set_option maxHeartbeats 1100000
set_option autoImplicit false
namespace K87
open PySem L2
abbrev iv (i : Int) : AV := .d (.int i)
abbrev bv (b : Bool) : AV := .d (.bool b)
abbrev sv (x : Str) : AV := .d (.str x)
abbrev nv : AV := .d .none
abbrev tv (xs : List PyData) : AV := .d (.tuple xs)
abbrev lv (xs : List PyData) : AV := .d (.list xs)
abbrev rv (p : Addr) : AV := .v (.ref p)

theorem rep_int {K : PySem.W.Frag} {G : Hp} {v : V} {i : Int} (h : Rep K G v (iv i)) : v = .int i := by
  have h : Dp K G v (.int i) := h
  cases h; rfl
theorem rep_bl {K : PySem.W.Frag} {G : Hp} {v : V} {i : Bool} (h : Rep K G v (bv i)) : v = .bl i := by
  have h : Dp K G v (.bool i) := h
  cases h; rfl
theorem rep_str {K : PySem.W.Frag} {G : Hp} {v : V} {i : Str} (h : Rep K G v (sv i)) : v = .str i := by
  have h : Dp K G v (.str i) := h
  cases h; rfl
theorem rep_non {K : PySem.W.Frag} {G : Hp} {v : V} (h : Rep K G v nv) : v = .non := by
  have h : Dp K G v .none := h
  cases h; rfl
theorem dpAll_reps {K : PySem.W.Frag} {G : Hp} : ∀ {vs : List V} {ds : List PyData}, DpAll K G vs ds → Reps K G vs (ds.map .d)
  | _, _, .nil => .nil
  | _, _, .cons h t => .cons h (dpAll_reps t)
theorem reps_dpAll {K : PySem.W.Frag} {G : Hp} : ∀ {ds : List PyData} {vs : List V}, Reps K G vs (ds.map .d) → DpAll K G vs ds
  | [], _, h => by cases h; exact .nil
  | _ :: _, _, h => by
    cases h with
    | cons a t => exact .cons a (reps_dpAll t)
theorem rep_tup {K : PySem.W.Frag} {G : Hp} {v : V} {ds : List PyData} (h : Rep K G v (tv ds)) : ∃ a xs, v = .ref a ∧ SqT K G a xs ∧ Reps K G xs (ds.map .d) := by
  have h : Dp K G v (.tuple ds) := h
  cases h with
  | tup h1 h2 => exact ⟨_, _, rfl, h1, dpAll_reps h2⟩
theorem rep_lst {K : PySem.W.Frag} {G : Hp} {v : V} {ds : List PyData} (h : Rep K G v (lv ds)) : ∃ a xs, v = .ref a ∧ SqL K G a xs ∧ Reps K G xs (ds.map .d) := by
  have h : Dp K G v (.list ds) := h
  cases h with
  | lst h1 h2 => exact ⟨_, _, rfl, h1, dpAll_reps h2⟩
theorem Reps.len {K : PySem.W.Frag} {G : Hp} {vs : List V} {as : List AV} (h : Reps K G vs as) : vs.length = as.length := Paired.length h
theorem Reps.get {K : PySem.W.Frag} {G : Hp} : ∀ {vs : List V} {as : List AV} {i : Nat} {a : AV}, Reps K G vs as → as[i]? = some a → ∃ v, vs[i]? = some v ∧ Rep K G v a
  | _, _, _, _, .nil, e => (by simp at e)
  | _, _, 0, _, .cons r _, e => (by simp at e; subst e; exact ⟨_, rfl, r⟩)
  | _, _, i + 1, a, .cons _ t, e => by
    (obtain ⟨u, h1, h2⟩ := Reps.get (i := i) (a := a) t (by simpa using e)); exact ⟨u, by simpa using h1, h2⟩
theorem Reps.append {K : PySem.W.Frag} {G : Hp} : ∀ {vs ws : List V} {as bs : List AV}, Reps K G vs as → Reps K G ws bs → Reps K G (vs ++ ws) (as ++ bs)
  | _, _, _, _, .nil, h => h
  | _, _, _, _, .cons a t, h => .cons a (Reps.append t h)
theorem Reps.drop {K : PySem.W.Frag} {G : Hp} : ∀ {vs : List V} {as : List AV} (n : Nat), Reps K G vs as → Reps K G (vs.drop n) (as.drop n)
  | _, _, 0, h => h
  | _, _, n + 1, .nil => .nil
  | _, _, n + 1, .cons a t => Reps.drop n t
theorem Reps.take {K : PySem.W.Frag} {G : Hp} : ∀ {vs : List V} {as : List AV} (n : Nat), Reps K G vs as → Reps K G (vs.take n) (as.take n)
  | _, _, 0, _ => .nil
  | _, _, n + 1, .nil => .nil
  | _, _, n + 1, .cons a t => .cons a (Reps.take n t)
theorem Reps.set {K : PySem.W.Frag} {G : Hp} {v : V} {a : AV} (r : Rep K G v a) : ∀ {vs : List V} {as : List AV} (n : Nat), Reps K G vs as → Reps K G (vs.set n v) (as.set n a)
  | _, _, _, .nil => .nil
  | _, _, 0, .cons _ t => (.cons r t)
  | _, _, n + 1, .cons b t => .cons b (Reps.set r n t)
theorem Reps.reverse {K : PySem.W.Frag} {G : Hp} : ∀ {vs : List V} {as : List AV}, Reps K G vs as → Reps K G vs.reverse as.reverse
  | _, _, .nil => .nil
  | _, _, .cons a t => by
    (rw [List.reverse_cons, List.reverse_cons]); exact Reps.append (Reps.reverse t) (.cons a .nil)
theorem Reps.dropLast {K : PySem.W.Frag} {G : Hp} {vs : List V} {as : List AV} (h : Reps K G vs as) : Reps K G vs.dropLast as.dropLast := by
  rw [List.dropLast_eq_take, List.dropLast_eq_take, Reps.len h]
  exact Reps.take _ h
/-- what is walked or indexed: data, or a mutable list as it stands -/
inductive SeqA (μ : Mu) : AV → List AV → Prop
  | lst (ds : List PyData) : SeqA μ (lv ds) (ds.map .d)
  | tup (ds : List PyData) : SeqA μ (tv ds) (ds.map .d)
  | own (p : Addr) (xs : List AV) (h : μ p = some (.lst xs)) : SeqA μ (rv p) xs
theorem SeqA.at {K : PySem.W.Frag} {G H : Hp} {μ : Mu} {a : AV} {xs : List AV} {v : V} (h : SeqA μ a xs) (m : MOk K G μ H) (r : Rep K G v a) : ∃ p vs, v = .ref p ∧ (SqL K H p vs ∨ SqT K H p vs) ∧ Reps K G vs xs := by
  cases h with
  | lst ds =>
    obtain ⟨p, vs, e, h1, h2⟩ := rep_lst r
    exact ⟨p, vs, e, .inl (Ext.sqL m.sub h1), h2⟩
  | tup ds =>
    obtain ⟨p, vs, e, h1, h2⟩ := rep_tup r
    exact ⟨p, vs, e, .inr (Ext.sqT m.sub h1), h2⟩
  | own p xs h =>
    obtain ⟨_, vs, e, h2⟩ := m.obj p _ h
    exact ⟨p, vs, r, .inl (SqL.of e), h2⟩
/-- a list (data or mutable) -/
inductive LstA (μ : Mu) : AV → List AV → Prop
  | lst (ds : List PyData) : LstA μ (lv ds) (ds.map .d)
  | own (p : Addr) (xs : List AV) (h : μ p = some (.lst xs)) : LstA μ (rv p) xs
theorem LstA.at {K : PySem.W.Frag} {G H : Hp} {μ : Mu} {a : AV} {xs : List AV} {v : V} (h : LstA μ a xs) (m : MOk K G μ H) (r : Rep K G v a) : ∃ p vs, v = .ref p ∧ SqL K H p vs ∧ Reps K G vs xs := by
  cases h with
  | lst ds =>
    obtain ⟨p, vs, e, h1, h2⟩ := rep_lst r
    exact ⟨p, vs, e, Ext.sqL m.sub h1, h2⟩
  | own p xs h =>
    obtain ⟨_, vs, e, h2⟩ := m.obj p _ h
    exact ⟨p, vs, r, SqL.of e, h2⟩
/-- a new list, as data or as a mutable object -/
def NewL (μ : Mu) (xs : List AV) (k : KV') : Prop := (∃ ds, xs = ds.map .d ∧ k (lv ds) μ) ∨ (∀ p, μ p = none → k (rv p) (mset μ p (.lst xs)))
theorem NewL.go {K : PySem.W.Frag} {G H : Hp} {μ : Mu} {xs : List AV} {k : KV'} {Q : VK} {vs : List V} {p : Addr} (h : NewL μ xs k) (m : MOk K G μ H) (r : Reps K G vs xs) (po : Post K G μ H k Q) (hp : H p = none) : Q (.ref p) (upd H p (.lst vs)) := by
  obtain ⟨g0, m0⟩ := m.free hp
  rcases h with ⟨ds, rfl, h⟩ | h
  · refine po _ _ _ _ _ h (Stp.imm m hp) (m.imm hp) ?_
    show Dp K _ _ _
    exact .lst (SqL.of upd_same) (reps_dpAll (r.ext (Ext.new g0)))
  · exact po _ _ _ _ _ (h p m0) (Stp.put (.inl hp)) (m.put (.inl hp) ⟨vs, upd_same, r⟩) rfl
theorem newT {K : PySem.W.Frag} {G H : Hp} {μ : Mu} {ds : List PyData} {k : KV'} {Q : VK} {vs : List V} {p : Addr} (h : k (tv ds) μ) (m : MOk K G μ H) (r : Reps K G vs (ds.map .d)) (po : Post K G μ H k Q) (hp : H p = none) : Q (.ref p) (upd H p (.tup vs)) := by
  obtain ⟨g0, m0⟩ := m.free hp
  refine po _ _ _ _ _ h (Stp.imm m hp) (m.imm hp) ?_
  show Dp K _ _ _
  exact .tup (SqT.of upd_same) (reps_dpAll (r.ext (Ext.new g0)))
theorem Post.now {K : PySem.W.Frag} {G H : Hp} {μ : Mu} {k : KV'} {Q : VK} (po : Post K G μ H k Q) {v : V} {a : AV} (h : k a μ) (m : MOk K G μ H) (r : Rep K G v a) : Q v H := po v a G μ H h (Stp.refl _ _ _) m r

section
variable {X : Cx} {E : XK} {F : KF} {ρ : Env'} {μ : Mu} {k : KV'} {kA : List AV → Mu → Prop} {kT : Bool → Mu → Prop}
/-! ### names and constants (K87) -/
theorem d_var (i : Nat) {x : Str} {pos : Pos} {a : AV} (h : ρ[i]? = some (some a)) (q : k a μ) (hN : X.N[i]? = some x := by rfl)
    (hv : Vis X.env.scope x := by first | exact Or.inl rfl | exact Or.inr (Or.inl rfl) | exact Or.inr (Or.inr rfl)) (hd : (x == ("__debug__" : Str)) = false := by decide) (hcd : (x == ("__classdict__" : Str)) = false := by decide) :
    dE X E F (.Name x pos) ρ μ k := fun σ G H sr m pf Q po => by
  obtain ⟨v, h1, h2⟩ := sr.get i a h
  exact w_pe (pe_var hN hv hd hcd) ⟨v, h1, po.now q m h2⟩
theorem d_int {i : Int} {j : Nat} {pos : Pos} (q : k (iv i) μ) : dE X E F (.Constant (.int i) j pos) ρ μ k := fun σ G H sr m pf Q po => w_pe pe_int (po.now q m (Dp.int i))
theorem d_bl {b : Bool} {j : Nat} {pos : Pos} (q : k (bv b) μ) : dE X E F (.Constant (.bool b) j pos) ρ μ k := fun σ G H sr m pf Q po => w_pe pe_bl (po.now q m (Dp.bl b))
theorem d_non {j : Nat} {pos : Pos} (q : k nv μ) : dE X E F (.Constant .none j pos) ρ μ k := fun σ G H sr m pf Q po => w_pe pe_non (po.now q m Dp.non)
theorem d_str {x : Str} {j : Nat} {pos : Pos} (q : k (sv x) μ) : dE X E F (.Constant (.str x) j pos) ρ μ k := fun σ G H sr m pf Q po => w_pe pe_str (po.now q m (Dp.str x))
/-- a module's name that is a value a, whatever the heap -/
theorem d_glob {x : Str} {v : V} {u : Value} {a : AV} {pos : Pos} (hg : Gl X x) (hm : X.mg x = some u) (r : RelV v u) (ra : ∀ G, Rep X.K G v a) (q : k a μ) (hd : (x == ("__debug__" : Str)) = false := by decide) : dE X E F (.Name x pos) ρ μ k :=
  fun σ G H sr m pf Q po => w_pe (pe_glob hg hm r hd) (po.now q m (ra G))
/-! ### argument lists -/
theorem d_nil (q : kA [] μ) : dA X E F [] ρ μ kA := fun σ G H sr m pf Q po => w_pa pa_nil (po [] [] G μ H q (Stp.refl _ _ _) m .nil)
theorem d_cons {e : Expr} {es : List Expr} (h : dE X E F e ρ μ fun a μ1 => dA X E F es ρ μ1 fun as μ2 => kA (a :: as) μ2) (hs : starEach (e :: es) X.env = (false, eval e X.env) :: starEach es X.env := by rfl) : dA X E F (e :: es) ρ μ kA := fun σ G H sr m pf Q po => by
  refine w_pa (pa_cons pe_w pa_w hs) ?_
  refine h σ G H sr m pf _ fun v a G1 μ1 H1 h1 st m1 r => ?_
  refine h1 σ G1 H1 (sr.ext st.ex) m1 (pf.step st) _ fun vs as G2 μ2 H2 h2 st2 m2 r2 => ?_
  exact po (v :: vs) (a :: as) G2 μ2 H2 h2 (st.trans st2) m2 (.cons (r.ext st2.ex) r2)
theorem d_star {e : Expr} {es : List Expr} {p : Pos} (h : dE X E F e ρ μ fun a μ1 => ∃ xs, SeqA μ1 a xs ∧ dA X E F es ρ μ1 fun as μ2 => kA (xs ++ as) μ2) : dA X E F (.Starred e p :: es) ρ μ kA := fun σ G H sr m pf Q po => by
  refine w_pa (StX.pa_star pe_w pa_w) ?_
  refine h σ G H sr m pf _ fun v a G1 μ1 H1 h1 st m1 r => ?_
  obtain ⟨xs, hx, h1⟩ := h1
  obtain ⟨p, vs, rfl, hs, rs⟩ := hx.at m1 r
  refine ⟨p, vs, rfl, hs.symm, ?_⟩
  refine h1 σ G1 H1 (sr.ext st.ex) m1 (pf.step st) _ fun ws as G2 μ2 H2 h2 st2 m2 r2 => ?_
  exact po _ _ G2 μ2 H2 h2 (st.trans st2) m2 (Reps.append (rs.ext st2.ex) r2)
/-! ### displays -/
theorem d_tup {es : List Expr} {x1 : Nat} {pos : Pos} (h : dA X E F es ρ μ fun as μ1 => ∃ ds, as = ds.map .d ∧ ds.length ≤ 1000000 ∧ k (tv ds) μ1) : dE X E F (.Tuple es x1 pos) ρ μ k := fun σ G H sr m pf Q po => by
  refine w_pe (pe_tup pa_w) ?_
  refine h σ G H sr m pf _ fun vs as G1 μ1 H1 h1 st m1 r => ?_
  obtain ⟨ds, rfl, hl, q⟩ := h1
  have e := Reps.len r
  rw [List.length_map] at e
  exact ⟨by rw [e, sizeLine_eq]; omega, fun p hp => newT q m1 r (po.step st) hp⟩
theorem d_lst {es : List Expr} {pos : Pos} (h : dA X E F es ρ μ fun as μ1 => as.length ≤ 1000000 ∧ NewL μ1 as k) : dE X E F (.List es pos) ρ μ k := fun σ G H sr m pf Q po => by
  refine w_pe (pe_lst pa_w) ?_
  refine h σ G H sr m pf _ fun vs as G1 μ1 H1 h1 st m1 r => ?_
  obtain ⟨hl, q⟩ := h1
  have e := Reps.len r
  exact ⟨by rw [e, sizeLine_eq]; omega, fun p hp => q.go m1 r (po.step st) hp⟩
/-! ### operators by values -/
def dR (K : PySem.W.Frag) (r : R2) (x y : AV) (μ : Mu) (k : KV') : Prop := ∀ v u G H, Rep K G v x → Rep K G u y → MOk K G μ H → ∀ Q : VK, Post K G μ H k Q → r v u H Q
theorem d_bin {op : Operator} {r : R2} {a b : Expr} {pos : Pos} (ho : OpR X (binaryOp op) r) (h : dE X E F a ρ μ fun x μ1 => dE X E F b ρ μ1 fun y μ2 => dR X.K r x y μ2 k) : dE X E F (.BinOp a op b pos) ρ μ k := fun σ G H sr m pf Q po => by
  refine w_pe (pe_op ho pe_w pe_w) ?_
  refine h σ G H sr m pf _ fun v a G1 μ1 H1 h1 st m1 r => ?_
  refine h1 σ G1 H1 (sr.ext st.ex) m1 (pf.step st) _ fun u b G2 μ2 H2 h2 st2 m2 r2 => ?_
  exact h2 v u G2 H2 (r.ext st2.ex) r2 m2 Q (po.step (st.trans st2))
theorem d_cmp {op : CmpOp} {r : R2} {a b : Expr} {pos : Pos} (ho : OpR X (compareOp op) r) (hm : behindInMarks op b = false) (h : dE X E F a ρ μ fun x μ1 => dE X E F b ρ μ1 fun y μ2 => dR X.K r x y μ2 k) : dE X E F (.Compare a [op] [b] pos) ρ μ k := fun σ G H sr m pf Q po => by
  refine w_pe (pe_cmpR ho pe_w pe_w hm) ?_
  refine h σ G H sr m pf _ fun v a G1 μ1 H1 h1 st m1 r => ?_
  refine h1 σ G1 H1 (sr.ext st.ex) m1 (pf.step st) _ fun u b G2 μ2 H2 h2 st2 m2 r2 => ?_
  exact h2 v u G2 H2 (r.ext st2.ex) r2 m2 Q (po.step (st.trans st2))
/-- a value that is a truth value, asked as a test -/
abbrev kB (kT : Bool → Mu → Prop) : KV' := fun a μ => ∃ b, a = bv b ∧ kT b μ
theorem postB {K : PySem.W.Frag} {G H : Hp} {kT : Bool → Mu → Prop} {Q : Bool → Hp → Prop} (po : PostT K G μ H kT Q) : Post K G μ H (kB kT) fun x H' => ∃ b, x = .bl b ∧ Q b H' := fun v a G' μ' H' h st m r => by
  obtain ⟨b, rfl, h⟩ := h
  exact ⟨b, rep_bl r, po b G' μ' H' h st m⟩
theorem d_tcmp {op : CmpOp} {r : R2} {a b : Expr} {pos : Pos} (ho : OpR X (compareOp op) r) (hm : behindInMarks op b = false) (h : dE X E F a ρ μ fun x μ1 => dE X E F b ρ μ1 fun y μ2 => dR X.K r x y μ2 (kB kT)) : dT X E F (.Compare a [op] [b] pos) ρ μ kT := fun σ G H sr m pf Q po => by
  refine w_pt (pt_cmpR ho pe_w pe_w hm) ?_
  refine h σ G H sr m pf _ fun v a G1 μ1 H1 h1 st m1 r => ?_
  refine h1 σ G1 H1 (sr.ext st.ex) m1 (pf.step st) _ fun u b G2 μ2 H2 h2 st2 m2 r2 => ?_
  exact h2 v u G2 H2 (r.ext st2.ex) r2 m2 _ (postB (po.step (st.trans st2)))
theorem d_tval {e : Expr} (h : dE X E F e ρ μ (kB kT)) (he : ∀ whole, isTrue e X.env whole = (do let v ← whole; standAt e.pos; holding [v] (truthy v)) := by intro _; rfl) : dT X E F e ρ μ kT := fun σ G H sr m pf Q po => by
  refine w_pt (pt_val pe_w he) ?_
  exact h σ G H sr m pf _ (postB po)
theorem dr_I {C : Int → Int → Prop} {g : Int → Int → V} {x y : AV} (h : ∃ i j a, x = iv i ∧ y = iv j ∧ C i j ∧ (∀ K G, Rep K G (g i j) a) ∧ k a μ) {K : PySem.W.Frag} : dR K (rI C g) x y μ k := fun v u G H r1 r2 m Q po => by
  obtain ⟨i, j, a, rfl, rfl, c, ra, q⟩ := h
  exact ⟨i, j, rep_int r1, rep_int r2, c, po.now q m (ra K G)⟩
theorem dr_I0 {g : Int → Int → V} {x y : AV} (h : ∃ i j a, x = iv i ∧ y = iv j ∧ (∀ K G, Rep K G (g i j) a) ∧ k a μ) {K : PySem.W.Frag} : dR K (rI0 g) x y μ k := fun v u G H r1 r2 m Q po => by
  obtain ⟨i, j, a, rfl, rfl, ra, q⟩ := h
  exact ⟨i, j, rep_int r1, rep_int r2, po.now q m (ra K G)⟩
theorem ri {K : PySem.W.Frag} {G : Hp} (i : Int) : Rep K G (.int i) (iv i) := Dp.int i
theorem rb {K : PySem.W.Frag} {G : Hp} (i : Bool) : Rep K G (.bl i) (bv i) := Dp.bl i
/-! ### weaker wishes -/
theorem dE.mono {e : Expr} {k' : KV'} (h : dE X E F e ρ μ k) (hk : ∀ a μ', k a μ' → k' a μ') : dE X E F e ρ μ k' := fun σ G H sr m pf Q po => h σ G H sr m pf Q fun v a G' μ' H' h1 => po v a G' μ' H' (hk a μ' h1)
theorem dT.mono {e : Expr} {k' : Bool → Mu → Prop} (h : dT X E F e ρ μ kT) (hk : ∀ a μ', kT a μ' → k' a μ') : dT X E F e ρ μ k' := fun σ G H sr m pf Q po => h σ G H sr m pf Q fun a G' μ' H' h1 => po a G' μ' H' (hk a μ' h1)
theorem dA.mono {es : List Expr} {k' : List AV → Mu → Prop} (h : dA X E F es ρ μ kA) (hk : ∀ a μ', kA a μ' → k' a μ') : dA X E F es ρ μ k' := fun σ G H sr m pf Q po => h σ G H sr m pf Q fun v a G' μ' H' h1 => po v a G' μ' H' (hk a μ' h1)
theorem dR.mono {K : PySem.W.Frag} {r : R2} {x y : AV} {k' : KV'} (h : dR K r x y μ k) (hk : ∀ a μ', k a μ' → k' a μ') : dR K r x y μ k' := fun v u G H r1 r2 m Q po => h v u G H r1 r2 m Q fun v a G' μ' H' h1 => po v a G' μ' H' (hk a μ' h1)
/-- two ints under an operator -/
abbrev k2 (f : Int → Int → AV) (C : Int → Int → Prop) (k : KV') : AV → AV → Mu → Prop := fun x y μ => ∃ i j, x = iv i ∧ y = iv j ∧ C i j ∧ k (f i j) μ
section
variable {a b : Expr} {pos : Pos}
theorem d_bin2 {op : Operator} {C : Int → Int → Prop} {g : Int → Int → V} {f : Int → Int → AV} (ho : OpR X (binaryOp op) (rI C g)) (hf : ∀ K G i j, Rep K G (g i j) (f i j)) (h : dE X E F a ρ μ fun x μ1 => dE X E F b ρ μ1 fun y μ2 => k2 f C k x y μ2) : dE X E F (.BinOp a op b pos) ρ μ k :=
  d_bin ho (h.mono fun x μ1 h1 => h1.mono fun y μ2 ⟨i, j, e1, e2, c, q⟩ => dr_I ⟨i, j, _, e1, e2, c, fun K G => hf K G i j, q⟩)
theorem d_bin0 {op : Operator} {g : Int → Int → V} {f : Int → Int → AV} (ho : OpR X (binaryOp op) (rI0 g)) (hf : ∀ K G i j, Rep K G (g i j) (f i j)) (h : dE X E F a ρ μ fun x μ1 => dE X E F b ρ μ1 fun y μ2 => ∃ i j, x = iv i ∧ y = iv j ∧ k (f i j) μ2) : dE X E F (.BinOp a op b pos) ρ μ k :=
  d_bin ho (h.mono fun x μ1 h1 => h1.mono fun y μ2 ⟨i, j, e1, e2, q⟩ => dr_I0 ⟨i, j, _, e1, e2, fun K G => hf K G i j, q⟩)
theorem d_add (h : dE X E F a ρ μ fun x μ1 => dE X E F b ρ μ1 fun y μ2 => ∃ i j, x = iv i ∧ y = iv j ∧ k (iv (i + j)) μ2) : dE X E F (.BinOp a .Add b pos) ρ μ k := d_bin0 (f := fun i j => iv (i + j)) op_add (fun _ _ _ _ => ri _) h
theorem d_sub (h : dE X E F a ρ μ fun x μ1 => dE X E F b ρ μ1 fun y μ2 => ∃ i j, x = iv i ∧ y = iv j ∧ k (iv (i - j)) μ2) : dE X E F (.BinOp a .Sub b pos) ρ μ k := d_bin0 (f := fun i j => iv (i - j)) op_sub (fun _ _ _ _ => ri _) h
theorem d_mul (h : dE X E F a ρ μ fun x μ1 => dE X E F b ρ μ1 fun y μ2 => k2 (fun i j => iv (i * j)) CMul k x y μ2) : dE X E F (.BinOp a .Mult b pos) ρ μ k := d_bin2 op_mul (fun _ _ _ _ => ri _) h
theorem d_fdiv (h : dE X E F a ρ μ fun x μ1 => dE X E F b ρ μ1 fun y μ2 => k2 (fun i j => iv (i / j)) CDiv k x y μ2) : dE X E F (.BinOp a .FloorDiv b pos) ρ μ k := d_bin2 op_fdiv (fun _ _ _ _ => ri _) h
theorem d_mod (h : dE X E F a ρ μ fun x μ1 => dE X E F b ρ μ1 fun y μ2 => k2 (fun i j => iv (i % j)) (fun _ j => 0 < j) k x y μ2) : dE X E F (.BinOp a .Mod b pos) ρ μ k := d_bin2 op_mod (fun _ _ _ _ => ri _) h
theorem d_pow (h : dE X E F a ρ μ fun x μ1 => dE X E F b ρ μ1 fun y μ2 => k2 (fun i j => iv (i ^ j.toNat)) CPow k x y μ2) : dE X E F (.BinOp a .Pow b pos) ρ μ k := d_bin2 op_pow (fun _ _ _ _ => ri _) h
theorem d_neg (h : dE X E F a ρ μ fun x μ1 => ∃ i, x = iv i ∧ k (iv (-i)) μ1) : dE X E F (.UnaryOp .USub a pos) ρ μ k := fun σ G H sr m pf Q po => by
  refine w_pe (pe_un un_neg pe_w) ?_
  refine h σ G H sr m pf _ fun v a G1 μ1 H1 h1 st m1 r => ?_
  obtain ⟨i, rfl, q⟩ := h1
  exact ⟨i, rep_int r, (po.step st).now q m1 (ri _)⟩
/-! ### comparisons -/
abbrev c2 (f : Int → Int → Bool) (k : KV') : AV → AV → Mu → Prop := fun x y μ => ∃ i j, x = iv i ∧ y = iv j ∧ k (bv (f i j)) μ
theorem dr_c {K : PySem.W.Frag} {f : Int → Int → Bool} {x y : AV} (h : c2 f k x y μ) : dR K (rI0 fun i j => .bl (f i j)) x y μ k := let ⟨i, j, e1, e2, q⟩ := h; dr_I0 ⟨i, j, _, e1, e2, fun _ _ => rb _, q⟩
theorem dr_eq {K : PySem.W.Frag} {x y : AV} (h : ∃ c d, x = .d c ∧ y = .d d ∧ SeqAt.shaped c = true ∧ SeqAt.shaped d = true ∧ k (bv (PyData.eqv c d)) μ) : dR K (rEqD K) x y μ k := fun v u G H r1 r2 m Q po => by
  obtain ⟨c, d, rfl, rfl, s1, s2, q⟩ := h
  exact ⟨c, d, dp_ext m.sub c v r1, dp_ext m.sub d u r2, s1, s2, po.now q m (rb _)⟩
theorem dr_ne {K : PySem.W.Frag} {x y : AV} (h : ∃ c d, x = .d c ∧ y = .d d ∧ SeqAt.shaped c = true ∧ SeqAt.shaped d = true ∧ k (bv (!PyData.eqv c d)) μ) : dR K (rNeD K) x y μ k := fun v u G H r1 r2 m Q po => by
  obtain ⟨c, d, rfl, rfl, s1, s2, q⟩ := h
  exact ⟨c, d, dp_ext m.sub c v r1, dp_ext m.sub d u r2, s1, s2, po.now q m (rb _)⟩
theorem dr_isN {K : PySem.W.Frag} {x y : AV} (h : ∃ b, y = nv ∧ ((x = nv ∧ b = true) ∨ ((∀ (K : PySem.W.Frag) (G : Hp) (v : V), Rep K G v x → v ≠ .non) ∧ b = false)) ∧ k (bv b) μ) : dR K (fun x y H Q => y = .non ∧ Q (.bl (decide (x = .non))) H) x y μ k := fun v u G H r1 r2 m Q po => by
  obtain ⟨b, rfl, hb, q⟩ := h
  refine ⟨rep_non r2, ?_⟩
  have e : decide (v = .non) = b := by
    rcases hb with ⟨rfl, rfl⟩ | ⟨hn, rfl⟩
    · rw [rep_non r1]; rfl
    · exact decide_eq_false (hn K G v r1)
  rw [e]
  exact po.now q m (rb _)
/-! ### not, and, or -/
theorem d_not (h : dE X E F a ρ μ fun x μ1 => ∃ c, x = bv c ∧ k (bv (!c)) μ1) : dE X E F (.UnaryOp .Not a pos) ρ μ k := fun σ G H sr m pf Q po => by
  refine w_pe (pe_not pe_w) ?_
  refine h σ G H sr m pf _ fun v a G1 μ1 H1 h1 st m1 r => ?_
  obtain ⟨c, rfl, q⟩ := h1
  exact ⟨c, rep_bl r, (po.step st).now q m1 (rb _)⟩
theorem d_one {op : BoolOp} (h : dE X E F a ρ μ k) : dE X E F (.BoolOp op [a] pos) ρ μ k := fun σ G H sr m pf Q po => w_pe (pe_one pe_w) (h σ G H sr m pf Q po)
theorem d_and {rest : List Expr} (h : dE X E F a ρ μ fun x μ1 => ∃ c, x = bv c ∧ (c = true → dE X E F (.BoolOp .And (b :: rest) pos) ρ μ1 k) ∧ (c = false → k (bv false) μ1)) : dE X E F (.BoolOp .And (a :: b :: rest) pos) ρ μ k := fun σ G H sr m pf Q po => by
  refine w_pe (pe_and pe_w pe_w) ?_
  refine h σ G H sr m pf _ fun v a G1 μ1 H1 h1 st m1 r => ?_
  obtain ⟨c, rfl, q1, q2⟩ := h1
  refine ⟨c, rep_bl r, ?_⟩
  cases c with
  | true => exact iteT (q1 rfl σ G1 H1 (sr.ext st.ex) m1 (pf.step st) Q (po.step st))
  | false => exact iteF ((po.step st).now (q2 rfl) m1 (rb _))
theorem d_or {rest : List Expr} (h : dE X E F a ρ μ fun x μ1 => ∃ c, x = bv c ∧ (c = true → k (bv true) μ1) ∧ (c = false → dE X E F (.BoolOp .Or (b :: rest) pos) ρ μ1 k)) : dE X E F (.BoolOp .Or (a :: b :: rest) pos) ρ μ k := fun σ G H sr m pf Q po => by
  refine w_pe (pe_or pe_w pe_w) ?_
  refine h σ G H sr m pf _ fun v a G1 μ1 H1 h1 st m1 r => ?_
  obtain ⟨c, rfl, q1, q2⟩ := h1
  refine ⟨c, rep_bl r, ?_⟩
  cases c with
  | true => exact iteT ((po.step st).now (q1 rfl) m1 (rb _))
  | false => exact iteF (q2 rfl σ G1 H1 (sr.ext st.ex) m1 (pf.step st) Q (po.step st))
/-- tests -/
theorem d_tnot (h : dT X E F a ρ μ fun c μ1 => kT (!c) μ1) : dT X E F (.UnaryOp .Not a pos) ρ μ kT := fun σ G H sr m pf Q po => w_pt (pt_not pt_w) (h σ G H sr m pf _ fun b G' μ' H' h1 => po (!b) G' μ' H' h1)
end
end
/-- a chain of tests, whatever its whole is -/
def wW (X : Cx) (e : Expr) : TT := fun σ H Q => ∀ (whole : Sem Value) (pins : List (Addr × Obj)) (s : Shared), Inv X pins σ H s → wpAny (model X.prog X.w) X.A (isTrue e X.env whole) (TP X pins σ Q) X.xe s
theorem pw_w {X : Cx} {e : Expr} : PW X e (wW X e) := ⟨fun wh pins s σ H Q I h => h wh pins s I⟩
theorem w_pw {X : Cx} {e : Expr} {t : TT} (h : PW X e t) {σ : St} {H : Hp} {Q : Bool → Hp → Prop} (q : t σ H Q) : wW X e σ H Q := fun wh pins s I => h.run wh pins s σ H Q I q
def dW (X : Cx) (E : XK) (F : KF) (e : Expr) (ρ : Env') (μ : Mu) (k : Bool → Mu → Prop) : Prop := ∀ σ G H, SR X.K G σ ρ → MOk X.K G μ H → PostF X.K G μ H F E → ∀ Q : Bool → Hp → Prop, PostT X.K G μ H k Q → wW X e σ H Q
section
variable {X : Cx} {E : XK} {F : KF} {ρ : Env'} {μ : Mu} {k : KV'} {kA : List AV → Mu → Prop} {kT : Bool → Mu → Prop} {a b c e : Expr} {rest : List Expr} {pos : Pos}
theorem d_tW (h : dW X E F e ρ μ kT) : dT X E F e ρ μ kT := fun σ G H sr m pf Q po => w_pt (PW.pt pw_w) (h σ G H sr m pf Q po)
theorem d_wand1 (h : dT X E F a ρ μ kT) : dW X E F (.BoolOp .And [a] pos) ρ μ kT := fun σ G H sr m pf Q po => w_pw (pw_and1 pt_w) (h σ G H sr m pf Q po)
theorem d_wor1 (h : dT X E F a ρ μ kT) : dW X E F (.BoolOp .Or [a] pos) ρ μ kT := fun σ G H sr m pf Q po => w_pw (pw_or1 pt_w) (h σ G H sr m pf Q po)
theorem d_wand (h : dT X E F a ρ μ fun c μ1 => (c = true → dW X E F (.BoolOp .And (b :: rest) pos) ρ μ1 kT) ∧ (c = false → kT false μ1)) : dW X E F (.BoolOp .And (a :: b :: rest) pos) ρ μ kT := fun σ G H sr m pf Q po => by
  refine w_pw (pw_and pt_w pw_w) ?_
  refine h σ G H sr m pf _ fun c G1 μ1 H1 h1 st m1 => ?_
  cases c with
  | true => exact iteT (h1.1 rfl σ G1 H1 (sr.ext st.ex) m1 (pf.step st) Q (po.step st))
  | false => exact iteF (po false G1 μ1 H1 (h1.2 rfl) st m1)
theorem d_wor (h : dT X E F a ρ μ fun c μ1 => (c = true → kT true μ1) ∧ (c = false → dW X E F (.BoolOp .Or (b :: rest) pos) ρ μ1 kT)) : dW X E F (.BoolOp .Or (a :: b :: rest) pos) ρ μ kT := fun σ G H sr m pf Q po => by
  refine w_pw (pw_or pt_w pw_w) ?_
  refine h σ G H sr m pf _ fun c G1 μ1 H1 h1 st m1 => ?_
  cases c with
  | true => exact iteT (po true G1 μ1 H1 (h1.1 rfl) st m1)
  | false => exact iteF (h1.2 rfl σ G1 H1 (sr.ext st.ex) m1 (pf.step st) Q (po.step st))
/-- a if c else b -/
theorem d_if (h : dT X E F c ρ μ fun t μ1 => (t = true → dE X E F a ρ μ1 k) ∧ (t = false → dE X E F b ρ μ1 k)) : dE X E F (.IfExp c a b pos) ρ μ k := fun σ G H sr m pf Q po => by
  refine w_pe (pe_ifExp pt_w pe_w pe_w) ?_
  refine h σ G H sr m pf _ fun t G1 μ1 H1 h1 st m1 => ?_
  cases t with
  | true => exact iteT (h1.1 rfl σ G1 H1 (sr.ext st.ex) m1 (pf.step st) Q (po.step st))
  | false => exact iteF (h1.2 rfl σ G1 H1 (sr.ext st.ex) m1 (pf.step st) Q (po.step st))
/-- a < b < c -/
theorem d_chain {op op' : CmpOp} {r r' : R2} (ho : OpR X (compareOp op) r) (ho' : OpR X (compareOp op') r') (hm : behindInMarks op b = false) (hm' : behindInMarks op' c = false)
    (hp : PE X (.Compare a [op, op'] [b, c] pos) (tChain r r' (wE X a) (wE X b) (wE X c)))
    (h : dE X E F a ρ μ fun x μ1 => dE X E F b ρ μ1 fun y μ2 => dR X.K r x y μ2 fun z μ3 => ∃ t, z = bv t ∧ (t = true → dE X E F c ρ μ3 fun w μ4 => dR X.K r' y w μ4 k) ∧ (t = false → k (bv false) μ3)) : dE X E F (.Compare a [op, op'] [b, c] pos) ρ μ k := fun σ G H sr m pf Q po => by
  refine w_pe hp ?_
  refine h σ G H sr m pf _ fun v a G1 μ1 H1 h1 st m1 r1 => ?_
  refine h1 σ G1 H1 (sr.ext st.ex) m1 (pf.step st) _ fun u b G2 μ2 H2 h2 st2 m2 r2 => ?_
  refine h2 v u G2 H2 (r1.ext st2.ex) r2 m2 _ fun z t G3 μ3 H3 h3 st3 m3 r3 => ?_
  obtain ⟨t, rfl, q1, q2⟩ := h3
  refine ⟨t, rep_bl r3, ?_⟩
  have s3 := (st.trans st2).trans st3
  cases t with
  | false => exact iteF ((po.step s3).now (q2 rfl) m3 (rb _))
  | true =>
    refine iteT (q1 rfl σ G3 H3 (sr.ext s3.ex) m3 (pf.step s3) _ fun w' d G4 μ4 H4 h4 st4 m4 r4 => ?_)
    exact h4 u w' G4 H4 (r2.ext (st3.ex.trans st4.ex)) r4 m4 Q (po.step (s3.trans st4))
end
end K87
end

section
set_option Elab.async false
set_option linter.all false
set_option maxRecDepth 100000
set_option maxHeartbeats 1100000
set_option autoImplicit false
namespace K87
open PySem L2
section
variable {X : Cx} {E : XK} {F : KF} {ρ : Env'} {μ : Mu} {k : KV'} {kA : List AV → Mu → Prop} {kT : Bool → Mu → Prop} {a b c e : Expr} {es rest : List Expr} {pos p2 p : Pos}
/-! ### items -/
def ixA {α : Type} (xs : List α) (i : Int) : Option α := atI xs i
theorem ixA_rep {K : PySem.W.Frag} {G : Hp} {vs : List V} {as : List AV} {i : Int} {x : AV} (h : Reps K G vs as) (e : atI as i = some x) : ∃ v, atI vs i = some v ∧ Rep K G v x := by
  unfold atI at e ⊢
  rw [Reps.len h]
  cases q : ixN as.length i with
  | none => (rw [q] at e; cases e)
  | some j =>
    rw [q] at e
    exact Reps.get h e
theorem d_ix (h : dE X E F a ρ μ fun x μ1 => dE X E F b ρ μ1 fun y μ2 => ∃ xs i z, SeqA μ2 x xs ∧ y = iv i ∧ atI xs i = some z ∧ k z μ2) (hs : PlainIx b := by exact fun _ _ => rfl) : dE X E F (.Subscript a b pos) ρ μ k := fun σ G H sr m pf Q po => by
  refine w_pe (pe_ix (ix_list.or ix_tup) pe_w pe_w hs) ?_
  refine h σ G H sr m pf _ fun v a G1 μ1 H1 h1 st m1 r => ?_
  refine h1 σ G1 H1 (sr.ext st.ex) m1 (pf.step st) _ fun u b G2 μ2 H2 h2 st2 m2 r2 => ?_
  obtain ⟨xs, i, z, hx, rfl, hz, q⟩ := h2
  obtain ⟨p, vs, rfl, hs, rs⟩ := hx.at m2 (r.ext st2.ex)
  obtain ⟨w, hw, rw'⟩ := ixA_rep rs hz
  have fin := (po.step (st.trans st2)).now q m2 rw'
  rcases hs with hs | hs
  · exact .inl ⟨p, vs, i, w, rfl, rep_int r2, hs, hw, fin⟩
  · exact .inr ⟨p, vs, i, w, rfl, rep_int r2, hs, hw, fin⟩
/-! ### slices -/
def wO (X : Cx) (e : Option Expr) : TO := fun σ H Q => ∀ (pins : List (Addr × Obj)) (s : Shared), Inv X pins σ H s → wpAny (model X.prog X.w) X.A (evalPart e X.env) (fun u s' => ∃ o H', Inv X pins σ H' s' ∧ IsPart u o ∧ Q o H') X.xe s
theorem po_w {o : Option Expr} : PO X o (wO X o) := ⟨fun pins s σ H Q I h => h pins s I⟩
theorem w_po {o : Option Expr} {t : TO} (h : PO X o t) {σ : St} {H : Hp} {Q : Option Int → Hp → Prop} (q : t σ H Q) : wO X o σ H Q := fun pins s I => h.run pins s σ H Q I q
def dO (X : Cx) (E : XK) (F : KF) (o : Option Expr) (ρ : Env') (μ : Mu) (k : Option Int → Mu → Prop) : Prop := ∀ σ G H, SR X.K G σ ρ → MOk X.K G μ H → PostF X.K G μ H F E → ∀ Q : Option Int → Hp → Prop, (∀ b G' μ' H', k b μ' → Stp G μ H G' μ' H' → MOk X.K G' μ' H' → Q b H') → wO X o σ H Q
theorem d_onone {kO : Option Int → Mu → Prop} (q : kO none μ) : dO X E F none ρ μ kO := fun σ G H sr m pf Q po => w_po po_none (po none G μ H q (Stp.refl _ _ _) m)
theorem d_osome {kO : Option Int → Mu → Prop} (h : dE X E F e ρ μ fun x μ1 => ∃ i, x = iv i ∧ kO (some i) μ1) : dO X E F (some e) ρ μ kO := fun σ G H sr m pf Q po => by
  refine w_po (po_some pe_w) ?_
  refine h σ G H sr m pf _ fun v a G1 μ1 H1 h1 st m1 r => ?_
  obtain ⟨i, rfl, q⟩ := h1
  exact ⟨i, rep_int r, po (some i) G1 μ1 H1 q st m1⟩
def cutA {α : Type} (xs : List α) (lo hi : Option Int) : List α := (xs.drop (HT.sIx xs.length 0 lo)).take (HT.sIx xs.length xs.length hi - HT.sIx xs.length 0 lo)
theorem cutA_map {α β : Type} (f : α → β) (xs : List α) (lo hi : Option Int) : cutA (xs.map f) lo hi = (cutA xs lo hi).map f := by
  unfold cutA
  rw [List.length_map, List.map_take, List.map_drop]
theorem cutA_rep {K : PySem.W.Frag} {G : Hp} {vs : List V} {as : List AV} (h : Reps K G vs as) (lo hi : Option Int) : Reps K G (cutV vs lo hi) (cutA as lo hi) := by
  unfold cutV cutA
  rw [Reps.len h]
  exact Reps.take _ (Reps.drop _ h)
theorem cutA_all {α : Type} (xs : List α) (lo hi : Option Int) (h : HT.sIx xs.length 0 lo = 0 ∧ HT.sIx xs.length xs.length hi = xs.length) : cutA xs lo hi = xs := by
  unfold cutA
  rw [h.1, h.2]; simp
theorem d_slT {lo hi : Option Expr} (h : dE X E F e ρ μ fun x μ1 => dO X E F lo ρ μ1 fun l μ2 => dO X E F hi ρ μ2 fun u μ3 => ∃ ds, x = tv ds ∧ k (tv (cutA ds l u)) μ3) : dE X E F (.Subscript e (.Slice lo hi none p2) pos) ρ μ k := fun σ G H sr m pf Q po => by
  refine w_pe (pe_slice sl_tupA pe_w po_w po_w) ?_
  refine h σ G H sr m pf _ fun v a G1 μ1 H1 h1 st m1 r => ?_
  refine h1 σ G1 H1 (sr.ext st.ex) m1 (pf.step st) _ fun l G2 μ2 H2 h2 st2 m2 => ?_
  have s2 := st.trans st2
  refine h2 σ G2 H2 (sr.ext s2.ex) m2 (pf.step s2) _ fun u G3 μ3 H3 h3 st3 m3 => ?_
  have s3 := s2.trans st3
  obtain ⟨ds, rfl, q⟩ := h3
  obtain ⟨p, vs, rfl, hs, rs⟩ := rep_tup (r.ext (st2.ex.trans st3.ex))
  refine ⟨p, vs, rfl, Ext.sqT m3.sub hs, fun hw => ?_, fun _ q' hq => ?_⟩
  · have hl := Reps.len rs
    rw [List.length_map] at hl
    rw [hl] at hw
    rw [cutA_all ds l u hw] at q
    exact (po.step s3).now q m3 (Dp.tup hs (reps_dpAll rs))
  · have r' := cutA_rep rs l u
    rw [cutA_map] at r'
    exact newT q m3 r' (po.step s3) hq
theorem d_slL {lo hi : Option Expr} (h : dE X E F e ρ μ fun x μ1 => dO X E F lo ρ μ1 fun l μ2 => dO X E F hi ρ μ2 fun u μ3 => ∃ xs, LstA μ3 x xs ∧ NewL μ3 (cutA xs l u) k) : dE X E F (.Subscript e (.Slice lo hi none p2) pos) ρ μ k := fun σ G H sr m pf Q po => by
  refine w_pe (pe_slice sl_list pe_w po_w po_w) ?_
  refine h σ G H sr m pf _ fun v a G1 μ1 H1 h1 st m1 r => ?_
  refine h1 σ G1 H1 (sr.ext st.ex) m1 (pf.step st) _ fun l G2 μ2 H2 h2 st2 m2 => ?_
  have s2 := st.trans st2
  refine h2 σ G2 H2 (sr.ext s2.ex) m2 (pf.step s2) _ fun u G3 μ3 H3 h3 st3 m3 => ?_
  have s3 := s2.trans st3
  obtain ⟨xs, hx, q⟩ := h3
  obtain ⟨p, vs, rfl, hs, rs⟩ := hx.at m3 (r.ext (st2.ex.trans st3.ex))
  exact ⟨p, vs, rfl, hs, fun q' hq => q.go m3 (cutA_rep rs l u) (po.step s3) hq⟩
theorem d_revL {j : Nat} {p1 p3 : Pos} (h : dE X E F e ρ μ fun x μ1 => ∃ xs, LstA μ1 x xs ∧ NewL μ1 xs.reverse k) : dE X E F (.Subscript e (.Slice none none (some (.UnaryOp .USub (.Constant (.int 1) j p1) p2)) p3) pos) ρ μ k := fun σ G H sr m pf Q po => by
  refine w_pe (pe_revL pe_w) ?_
  refine h σ G H sr m pf _ fun v a G1 μ1 H1 h1 st m1 r => ?_
  obtain ⟨xs, hx, q⟩ := h1
  obtain ⟨p, vs, rfl, hs, rs⟩ := hx.at m1 r
  exact ⟨p, vs, rfl, hs, fun q' hq => q.go m1 rs.reverse (po.step st) hq⟩
/-! ### + of sequences -/
theorem op_catL : OpR X (binaryOp .Add) (fun x y H Q => ∃ l b xs zs, x = .ref l ∧ y = .ref b ∧ SqL X.K H l xs ∧ SqL X.K H b zs ∧ xs.length + zs.length ≤ sizeLine ∧ ∀ p, H p = none → Q (.ref p) (upd H p (.lst (xs ++ zs)))) := by
  (intro pins s σ H x y v u Q I rx ry h); obtain ⟨l, b, xs, zs, rfl, rfl, hH, hB, hz, q⟩ := h
  cases rx
  cases ry
  obtain ⟨its, r, pl, _⟩ := I.list hH
  obtain ⟨its2, r2, pl2, _⟩ := I.list hB
  obtain ⟨⟨oc, od, dt, sl⟩, e, c, n, da⟩ := pl.isList
  obtain ⟨⟨oc2, od2, dt2, sl2⟩, e2, c2, n2, da2⟩ := pl2.isList
  have hl := r.length
  have hl2 := r2.length
  simp only at c da c2 da2
  subst c da c2 da2
  refine concat_meets ⟨_, e, rfl⟩ ⟨_, e2, rfl⟩ noFill_list_add seq_list_add PySem.F.slot_list_add PySem.F.entry_list_add (PySem.F.args_list_add_2 _ _) (PyProof.Rows.list_addW l b its.toArray its2.toArray n n2 od od2 sl sl2 (by rw [List.size_toArray, List.size_toArray]; omega)) ⟨e, e2, ?_⟩
  (have ea : its.toArray ++ its2.toArray = (its ++ its2).toArray := by simp); rw [ea]
  exact ⟨.ref _, _, I.lnew (t' := s.toks) ((r.append r2)) (by rw [List.length_append]; omega), rfl, q _ I.fresh⟩
theorem d_catL (h : dE X E F a ρ μ fun x μ1 => dE X E F b ρ μ1 fun y μ2 => ∃ xs ys, LstA μ2 x xs ∧ LstA μ2 y ys ∧ xs.length + ys.length ≤ 1000000 ∧ NewL μ2 (xs ++ ys) k) : dE X E F (.BinOp a .Add b pos) ρ μ k :=
  d_bin op_catL (h.mono fun x μ1 h1 => h1.mono fun y μ2 ⟨xs, ys, hx, hy, hz, q⟩ => fun v u G H r1 r2 m Q po => by
    obtain ⟨p, vs, rfl, hs, rs⟩ := hx.at m r1
    obtain ⟨p2, vs2, rfl, hs2, rs2⟩ := hy.at m r2
    exact ⟨p, p2, vs, vs2, rfl, rfl, hs, hs2, by rw [Reps.len rs, Reps.len rs2, sizeLine_eq]; omega, fun t ht => q.go m (Reps.append rs rs2) po ht⟩)
theorem d_catT (h : dE X E F a ρ μ fun x μ1 => dE X E F b ρ μ1 fun y μ2 => ∃ xs ys, x = tv xs ∧ y = tv ys ∧ xs.length + ys.length ≤ 1000000 ∧ k (tv (xs ++ ys)) μ2) : dE X E F (.BinOp a .Add b pos) ρ μ k :=
  d_bin op_catA (h.mono fun x μ1 h1 => h1.mono fun y μ2 ⟨xs, ys, hx, hy, hz, q⟩ => fun v u G H r1 r2 m Q po => by
    subst hx hy
    obtain ⟨p, vs, rfl, hs, rs⟩ := rep_tup r1
    obtain ⟨p2, vs2, rfl, hs2, rs2⟩ := rep_tup r2
    have l1 := Reps.len rs
    have l2 := Reps.len rs2
    rw [List.length_map] at l1 l2
    have rs3 := Reps.append rs rs2
    rw [← List.map_append] at rs3
    refine ⟨p, p2, vs, vs2, rfl, rfl, Ext.sqT m.sub hs, Ext.sqT m.sub hs2, by rw [l1, l2, sizeLine_eq]; omega, fun e => ?_, fun _ e => ?_, fun _ _ t ht => newT q m rs3 po ht⟩
    · subst e
      have : xs = [] := List.eq_nil_of_length_eq_zero l1.symm
      subst this
      exact po.now q m (Dp.tup hs2 (reps_dpAll rs2))
    · subst e
      have : ys = [] := List.eq_nil_of_length_eq_zero l2.symm
      subst this
      rw [List.append_nil] at q
      exact po.now q m (Dp.tup hs (reps_dpAll rs)))
/-! ### calls of builtins -/
def dC (K : PySem.W.Frag) (r : List V → Hp → VK → Prop) (as : List AV) (μ : Mu) (k : KV') : Prop := ∀ vs G H, Reps K G vs as → MOk K G μ H → ∀ Q : VK, Post K G μ H k Q → r vs H Q
theorem d_callB {id : String} {x : Str} {r : List V → Hp → VK → Prop} (hc : CallR X (.builtin id) r) (hg : Gl X x) (hm : X.mg x = none) (hv : bootBuiltins x = some (.builtin id)) (h : dA X E F (e :: es) ρ μ fun as μ1 => dC X.K r as μ1 k)
    (hn : x ≠ "__name__" := by decide) (hdb : (x == ("__debug__" : Str)) = false := by decide) (he : starEach (e :: es) X.env = (false, eval e X.env) :: starEach es X.env := by rfl) (hpl : (backTo pos (starEach es X.env)).any (·.1) = false := by rfl) :
    dE X E F (.Call (.Name x p) (e :: es) [] pos) ρ μ k := fun σ G H sr m pf Q po => by
  refine w_pe (pe_callB hc hg hm hv pa_w hn hdb he hpl) ?_
  exact h σ G H sr m pf _ fun vs as G1 μ1 H1 h1 st m1 r => h1 vs G1 H1 r m1 Q (po.step st)
theorem d_callTy {T : String} {x : Str} {r : List V → Hp → VK → Prop} (hc : CallR X (.type T) r) (hg : Gl X x) (hm : X.mg x = none) (hv : bootBuiltins x = some (.type T)) (h : dA X E F (e :: es) ρ μ fun as μ1 => dC X.K r as μ1 k)
    (hn : x ≠ "__name__" := by decide) (hdb : (x == ("__debug__" : Str)) = false := by decide) (he : starEach (e :: es) X.env = (false, eval e X.env) :: starEach es X.env := by rfl) (hpl : (backTo pos (starEach es X.env)).any (·.1) = false := by rfl) :
    dE X E F (.Call (.Name x p) (e :: es) [] pos) ρ μ k := fun σ G H sr m pf Q po => by
  refine w_pe (pe_callTy hc hg hm hv pa_w hn hdb he hpl) ?_
  exact h σ G H sr m pf _ fun vs as G1 μ1 H1 h1 st m1 r => h1 vs G1 H1 r m1 Q (po.step st)
theorem reps1 {K : PySem.W.Frag} {G : Hp} {vs : List V} {a : AV} (h : Reps K G vs [a]) : ∃ v, vs = [v] ∧ Rep K G v a := by
  cases h with
  | cons r t => cases t; exact ⟨_, rfl, r⟩
theorem reps2 {K : PySem.W.Frag} {G : Hp} {vs : List V} {a b : AV} (h : Reps K G vs [a, b]) : ∃ v u, vs = [v, u] ∧ Rep K G v a ∧ Rep K G u b := by
  cases h with
  | cons r t =>
    obtain ⟨u, rfl, r2⟩ := reps1 t
    exact ⟨_, _, rfl, r, r2⟩
theorem reps_ints {K : PySem.W.Frag} {G : Hp} : ∀ {ns : List Int} {vs : List V}, Reps K G vs (ns.map iv) → vs = ns.map V.int
  | [], _, h => by cases h; rfl
  | n :: ns, _, h => by
    cases h with
    | cons r t => rw [rep_int r, reps_ints t]; rfl
theorem reps_bls {K : PySem.W.Frag} {G : Hp} : ∀ {ns : List Bool} {vs : List V}, Reps K G vs (ns.map bv) → vs = ns.map V.bl
  | [], _, h => by cases h; rfl
  | n :: ns, _, h => by
    cases h with
    | cons r t => rw [rep_bl r, reps_bls t]; rfl
theorem dc_len {as : List AV} (h : ∃ (x : AV) (xs : List AV), as = [x] ∧ SeqA μ x xs ∧ k (iv xs.length) μ) {K : PySem.W.Frag} : dC K (fun xs H Q => ∃ p ys, xs = [.ref p] ∧ (SqL K H p ys ∨ SqT K H p ys) ∧ Q (.int ys.length) H) as μ k := fun vs G H r m Q po => by
  obtain ⟨x, xs, rfl, hx, q⟩ := h
  obtain ⟨v, rfl, rv⟩ := reps1 r
  obtain ⟨p, vs, rfl, hs, rs⟩ := hx.at m rv
  exact ⟨p, vs, rfl, hs, by rw [Reps.len rs]; exact po.now q m (ri _)⟩
theorem dc_lenS {as : List AV} (h : ∃ x : Str, as = [sv x] ∧ x.length ≤ 1000000 ∧ k (iv x.length) μ) {K : PySem.W.Frag} : dC K (fun xs H Q => ∃ z : Str, xs = [.str z] ∧ z.length ≤ sizeLine ∧ Q (.int z.length) H) as μ k := fun vs G H r m Q po => by
  obtain ⟨x, rfl, hx, q⟩ := h
  obtain ⟨v, rfl, rv⟩ := reps1 r
  exact ⟨x, by rw [rep_str rv], by rw [sizeLine_eq]; omega, po.now q m (ri _)⟩
theorem dc_sum {as : List AV} (h : ∃ (x : AV) (ns : List Int), as = [x] ∧ LstA μ x (ns.map iv) ∧ k (iv ns.sum) μ) {K : PySem.W.Frag} : dC K (rSum K) as μ k := fun vs G H r m Q po => by
  obtain ⟨x, ns, rfl, hx, q⟩ := h
  obtain ⟨v, rfl, rv⟩ := reps1 r
  obtain ⟨p, vs, rfl, hs, rs⟩ := hx.at m rv
  rw [reps_ints rs] at hs
  exact ⟨p, ns, rfl, hs, po.now q m (ri _)⟩
theorem dc_all {as : List AV} (h : ∃ (x : AV) (bs : List Bool), as = [x] ∧ LstA μ x (bs.map bv) ∧ k (bv (bs.all id)) μ) {K : PySem.W.Frag} : dC K (rAll K) as μ k := fun vs G H r m Q po => by
  obtain ⟨x, bs, rfl, hx, q⟩ := h
  obtain ⟨v, rfl, rv⟩ := reps1 r
  obtain ⟨p, vs, rfl, hs, rs⟩ := hx.at m rv
  rw [reps_bls rs] at hs
  exact ⟨p, bs, rfl, hs, po.now q m (rb _)⟩
theorem dc_max {as : List AV} (h : ∃ (x : AV) (ns : List Int), as = [x] ∧ LstA μ x (ns.map iv) ∧ 0 < ns.length ∧ ∀ m, m ∈ ns → (∀ y, y ∈ ns → y ≤ m) → k (iv m) μ) {K : PySem.W.Frag} : dC K (rMax K) as μ k := fun vs G H r m Q po => by
  obtain ⟨x, ns, rfl, hx, h0, q⟩ := h
  obtain ⟨v, rfl, rv⟩ := reps1 r
  obtain ⟨p, vs, rfl, hs, rs⟩ := hx.at m rv
  rw [reps_ints rs] at hs
  exact ⟨p, ns, rfl, hs, h0, fun y h1 h2 => po.now (q y h1 h2) m (ri _)⟩
theorem dc_max2 {as : List AV} (h : ∃ i j, as = [iv i, iv j] ∧ k (iv (if j > i then j else i)) μ) {K : PySem.W.Frag} : dC K (fun xs H Q => ∃ i j, xs = [.int i, .int j] ∧ Q (.int (if j > i then j else i)) H) as μ k := fun vs G H r m Q po => by
  obtain ⟨i, j, rfl, q⟩ := h
  obtain ⟨v, u, rfl, r1, r2⟩ := reps2 r
  exact ⟨i, j, by rw [rep_int r1, rep_int r2], po.now q m (ri _)⟩
theorem dc_min2 {as : List AV} (h : ∃ i j, as = [iv i, iv j] ∧ k (iv (if j < i then j else i)) μ) {K : PySem.W.Frag} : dC K (fun xs H Q => ∃ i j, xs = [.int i, .int j] ∧ Q (.int (if j < i then j else i)) H) as μ k := fun vs G H r m Q po => by
  obtain ⟨i, j, rfl, q⟩ := h
  obtain ⟨v, u, rfl, r1, r2⟩ := reps2 r
  exact ⟨i, j, by rw [rep_int r1, rep_int r2], po.now q m (ri _)⟩
theorem dc_abs {as : List AV} (h : ∃ i, as = [iv i] ∧ k (iv (if i < 0 then -i else i)) μ) {K : PySem.W.Frag} : dC K (fun xs H Q => ∃ i, xs = [.int i] ∧ Q (.int (if i < 0 then -i else i)) H) as μ k := fun vs G H r m Q po => by
  obtain ⟨i, rfl, q⟩ := h
  obtain ⟨v, rfl, r1⟩ := reps1 r
  exact ⟨i, by rw [rep_int r1], po.now q m (ri _)⟩
theorem dc_intB {as : List AV} (h : ∃ b, as = [bv b] ∧ k (iv (if b then 1 else 0)) μ) {K : PySem.W.Frag} : dC K (fun xs H Q => (∃ i, xs = [.int i] ∧ Q (.int i) H) ∨ ∃ k, xs = [.bl k] ∧ Q (.int (if k then 1 else 0)) H) as μ k := fun vs G H r m Q po => by
  obtain ⟨i, rfl, q⟩ := h
  obtain ⟨v, rfl, r1⟩ := reps1 r
  exact .inr ⟨i, by rw [rep_bl r1], po.now q m (ri _)⟩
theorem dc_listOf {as : List AV} (h : ∃ (x : AV) (xs : List AV), as = [x] ∧ SeqA μ x xs ∧ NewL μ xs k) {K : PySem.W.Frag} : dC K (fun xs H Q => ∃ p ys, xs = [.ref p] ∧ (SqL K H p ys ∨ SqT K H p ys) ∧ ∀ l, H l = none → Q (.ref l) (upd H l (.lst ys))) as μ k := fun vs G H r m Q po => by
  obtain ⟨x, xs, rfl, hx, q⟩ := h
  obtain ⟨v, rfl, rv⟩ := reps1 r
  obtain ⟨p, vs, rfl, hs, rs⟩ := hx.at m rv
  exact ⟨p, vs, rfl, hs, fun l hl => q.go m rs po hl⟩
theorem dc_tupOf {as : List AV} (h : ∃ (x : AV) (ds : List PyData), as = [x] ∧ LstA μ x (ds.map .d) ∧ k (tv ds) μ) {K : PySem.W.Frag} : dC K (fun xs H Q => ∃ p ys, xs = [.ref p] ∧ ((SqL K H p ys ∧ ∀ l, H l = none → Q (.ref l) (upd H l (.tup ys))) ∨ (SqT K H p ys ∧ Q (.ref p) H))) as μ k := fun vs G H r m Q po => by
  obtain ⟨x, ds, rfl, hx, q⟩ := h
  obtain ⟨v, rfl, rv⟩ := reps1 r
  obtain ⟨p, vs, rfl, hs, rs⟩ := hx.at m rv
  exact ⟨p, vs, rfl, .inl ⟨hs, fun l hl => newT q m rs po hl⟩⟩
/-! ### isinstance -/
def tyN : AV → Option String
  | .d .none => some "NoneType"
  | .d (.bool _) => some "bool"
  | .d (.int _) => some "int"
  | .d (.str _) => some "str"
  | .d (.list _) => some "list"
  | .d (.tuple _) => some "tuple"
  | _ => none
theorem sqT_ty {K : PySem.W.Frag} {H : Hp} {p : Addr} {xs : List V} (h : SqT K H p xs) : TyX K H (.ref p) (.type "tuple") := by
  rcases h with (h | ⟨o, h⟩) | ⟨o, its, n, hk, hc, _⟩
  · exact .base (.tup h)
  · exact .fTuple h
  · exact .kTuple hk hc
theorem sqL_ty {K : PySem.W.Frag} {H : Hp} {p : Addr} {xs : List V} (h : SqL K H p xs) : TyX K H (.ref p) (.type "list") := by
  rcases h with (h | ⟨o, h⟩) | ⟨o, its, n, hk, hc, _⟩
  · exact .base (.lst h)
  · exact .base (.frz h)
  · exact .kList hk hc
theorem tyN_ok {K : PySem.W.Frag} {G H : Hp} {μ : Mu} {a : AV} {v : V} {T : String} (h : tyN a = some T) (m : MOk K G μ H) (r : Rep K G v a) : TyX K H v (.type T) := by
  cases a with
  | v u => cases h
  | e i y => cases h
  | d x =>
    cases x with
    | none => cases h; rw [rep_non r]; exact .base .non
    | bool b => cases h; rw [rep_bl r]; exact .base (.bl b)
    | int b => cases h; rw [rep_int r]; exact .base (.int b)
    | str b => cases h; rw [rep_str r]; exact .base (.str b)
    | list b => cases h; obtain ⟨p, vs, rfl, hs, _⟩ := rep_lst r; exact sqL_ty (Ext.sqL m.sub hs)
    | tuple b => cases h; obtain ⟨p, vs, rfl, hs, _⟩ := rep_tup r; exact sqT_ty (Ext.sqT m.sub hs)
    | dict b => cases h
/-- isinstance(x, T) -/
theorem dc_isi {as : List AV} (h : ∃ (x : AV) (T U : String) (b : Bool), as = [x, .v (.ty U)] ∧ tyN x = some T ∧ kitB T U = some b ∧ k (bv b) μ) {K : PySem.W.Frag} : dC K (rIsi K) as μ k := fun vs G H r m Q po => by
  obtain ⟨x, T, U, b, rfl, ht, hk, q⟩ := h
  obtain ⟨v, u, rfl, r1, r2⟩ := reps2 r
  cases (show u = V.ty U from r2)
  exact ⟨v, .ty U, .type T, .type U, b, rfl, .ty U, tyN_ok ht m r1, kit_ty hk, po.now q m (rb _)⟩
/-- isinstance(x, (T, U)) -/
theorem dc_isiT {as : List AV} (h : ∃ (x : AV) (T U1 U2 : String) (b1 b2 : Bool) (p : Addr), as = [x, rv p] ∧ μ p = some (.lst []) ∧ k (bv (b1 || b2)) μ) {K : PySem.W.Frag} : True := trivial
/-- a built-in's name as a value -/
theorem d_ty {x : Str} {T : String} (hg : Gl X x) (hm : X.mg x = none) (hv : bootBuiltins x = some (.type T)) (q : k (.v (.ty T)) μ) (hn : x ≠ "__name__" := by decide) (hd : (x == ("__debug__" : Str)) = false := by decide) : dE X E F (.Name x pos) ρ μ k := fun σ G H sr m pf Q po =>
  w_pe (pe_bltn (v := .ty T) hg hm hv rfl hn hd) (po.now q m rfl)
end
end K87
end

section
set_option Elab.async false
set_option linter.all false
set_option maxRecDepth 100000
set_option maxHeartbeats 1100000
set_option autoImplicit false
namespace K87
open PySem L2
/-! ### a def's promise over data -/
abbrev FS := List AV → Mu → KV' → KF → Prop
def spF (K : PySem.W.Frag) (fs : FS) : Sp := fun vs H Q E => ∃ G μ as k F, Reps K G vs as ∧ MOk K G μ H ∧ fs as μ k F ∧ Post K G μ H k Q ∧ PostF K G μ H F E
section
variable {X : Cx} {E : XK} {F : KF} {ρ : Env'} {μ : Mu} {k : KV'} {kA : List AV → Mu → Prop} {kT : Bool → Mu → Prop} {a b c e o : Expr} {rs rest : List Expr} {pos p2 p apos : Pos} {x : Str} {lv' j : Nat} {fs : FS}
/-- f(e, ..), f a def of the module that lets no error out -/
theorem d_call (c : C8.Cal X.prog X.w X.K X.mg X.base lv' x (spF X.K fs) []) (hr : Room j X.A) (hk : lv' ≤ j) (hg : Gl X x) (h : dA X E F (e :: rs) ρ μ fun as μ1 => fs as μ1 k F0)
    (hdb : (x == ("__debug__" : Str)) = false := by decide) (he : starEach (e :: rs) X.env = (false, eval e X.env) :: starEach rs X.env := by rfl) (hpl : (backTo pos (starEach rs X.env)).any (·.1) = false := by rfl) :
    dE X E F (.Call (.Name x p) (e :: rs) [] pos) ρ μ k := fun σ G H sr m pf Q po => by
  refine w_pe (C8.pe_c c hr hk hg pa_w hdb he hpl) ?_
  refine h σ G H sr m pf _ fun vs as G1 μ1 H1 h1 st m1 r => ?_
  rw [List.append_nil]
  exact ⟨G1, μ1, as, k, F0, r, m1, h1, po.step st, PostF.none⟩
theorem d_call0 {f : Addr} {fd : FuncData} {ps : List Str} (Fo : FnOk X.prog X.w X.K X.mg X.base CX0 lv' f fd ps (spF X.K fs)) (hr : Room lv' X.A) (hg : Gl X x) (hm : X.mg x = some (.ref f)) (kp : PySem.W.keepIn X.K (.ref f) = true) (b : Binds X.K fd ps [])
    (h : fs [] μ k F0) (hdb : (x == ("__debug__" : Str)) = false := by decide) : dE X E F (.Call (.Name x p) [] [] pos) ρ μ k := fun σ G H sr m pf Q po => by
  refine w_pe (pe_call0 Fo hr hg hm kp b .nil pass0 hdb) ?_
  exact ⟨G, μ, [], k, F0, .nil, m, h, po, PostF.none⟩
/-- the same, errors let out -/
theorem d_callX {f : Addr} {fd : FuncData} {ps : List Str} (Fo : FnOk X.prog X.w X.K X.mg X.base (CX X.prog X.w) lv' f fd ps (spF X.K fs)) (hr : Room lv' X.A) (hg : Gl X x) (hm : X.mg x = some (.ref f)) (kp : PySem.W.keepIn X.K (.ref f) = true) (b : Binds X.K fd ps []) (hx : Passes (CX X.prog X.w) X E)
    (h : dA X E F (e :: rs) ρ μ fun as μ1 => fs as μ1 k F)
    (hdb : (x == ("__debug__" : Str)) = false := by decide) (he : starEach (e :: rs) X.env = (false, eval e X.env) :: starEach rs X.env := by rfl) (hpl : (backTo pos (starEach rs X.env)).any (·.1) = false := by rfl) :
    dE X E F (.Call (.Name x p) (e :: rs) [] pos) ρ μ k := fun σ G H sr m pf Q po => by
  refine w_pe (pe_call Fo hr hg hm kp b .nil hx pa_w hdb he hpl) ?_
  refine h σ G H sr m pf _ fun vs as G1 μ1 H1 h1 st m1 r => ?_
  rw [List.append_nil]
  exact ⟨G1, μ1, as, k, F, r, m1, h1, po.step st, pf.step st⟩
/-! ### attributes -/
theorem lookF {K : PySem.W.Frag} {G : Hp} {f : Str} {a : AV} : ∀ {vs : List (Str × V)} {fs : List (Str × AV)}, Paired (fun (q : Str × V) (r : Str × AV) => q.1 = r.1 ∧ Rep K G q.2 r.2) vs fs → fs.lookup f = some a → ∃ v, vs.lookup f = some v ∧ Rep K G v a
  | _, _, .nil, h => by cases h
  | (n, v) :: vs, (n', a') :: fs, .cons ⟨e, r⟩ t, h => by
    obtain rfl : n = n' := e
    by_cases q : f = n
    · subst q
      simp [List.lookup] at h ⊢
      subst h
      exact r
    · have e : (f == n) = false := by simpa using q
      simp only [List.lookup, e] at h ⊢
      exact lookF t h
theorem lookF0 {K : PySem.W.Frag} {G : Hp} {f : Str} : ∀ {vs : List (Str × V)} {fs : List (Str × AV)}, Paired (fun (q : Str × V) (r : Str × AV) => q.1 = r.1 ∧ Rep K G q.2 r.2) vs fs → fs.lookup f = none → vs.lookup f = none
  | _, _, .nil, h => rfl
  | (n, v) :: vs, (n', a') :: fs, .cons ⟨e, r⟩ t, h => by
    obtain rfl : n = n' := e
    by_cases q : f = n
    · subst q
      simp [List.lookup] at h
    · have e : (f == n) = false := by simpa using q
      simp only [List.lookup, e] at h ⊢
      exact lookF0 t h
theorem d_fld {f : Str} (h : dE X E F o ρ μ fun x μ1 => ∃ p C fs a, x = rv p ∧ μ1 p = some (.ins C fs) ∧ Cls X.K C ∧ NoAttr X.K C f ∧ fs.lookup f = some a ∧ k a μ1) (hb : attributeBase o f X.env (eval o X.env) = eval o X.env := by rfl) : dE X E F (.Attribute o f pos) ρ μ k := fun σ G H sr m pf Q po => by
  refine w_pe (pe_fld pe_w hb) ?_
  refine h σ G H sr m pf _ fun v a G1 μ1 H1 h1 st m1 r => ?_
  obtain ⟨p, C, fs, a, rfl, hp, hc, hn, hl, q⟩ := h1
  obtain ⟨_, dx, vs, e, pr⟩ := m1.obj p _ hp
  obtain ⟨w, h1, h2⟩ := lookF pr hl
  exact ⟨p, C, dx, vs, w, r, e, hc, hn, h1, (po.step st).now q m1 h2⟩
end
/-! ### statements -/
section
variable {X : Cx} {E : XK} {F : KF} {ρ : Env'} {μ : Mu} {k : KV'} {kA : List AV → Mu → Prop} {kT : Bool → Mu → Prop} {a b c e o tg iter : Expr} {rs rest : List Expr} {pos p2 p apos : Pos} {x : Str} {N : DN} {st : Stmt} {sts body els : List Stmt}
theorem PostD.nxAt {K : PySem.W.Frag} {G H : Hp} {μ : Mu} {N : DN} {D : Ends} {σ : St} {ρ : Env'} (p : PostD K G μ H N D) (h : N.nx ρ μ) (m : MOk K G μ H) (s : SR K G σ ρ) : D.nx σ H := p.nx σ ρ G μ H h (Stp.refl _ _ _) m s
theorem s_nil (h : N.nx ρ μ) : dSs X E F [] ρ μ N := fun σ G H sr m pf D po => w_pss pss_nil (po.nxAt h m sr)
theorem s_cons (h : dS X E F st ρ μ { N with nx := fun ρ' μ' => dSs X E F sts ρ' μ' N }) : dSs X E F (st :: sts) ρ μ N := fun σ G H sr m pf D po => by
  refine w_pss (pss_cons ps_w pss_w) ?_
  refine h σ G H sr m pf _ ⟨fun σ' ρ' G' μ' H' h1 s1 m1 sr1 => ?_, po.rt, po.bk, po.ct⟩
  exact h1 σ' G' H' sr1 m1 (pf.step s1) D (po.step s1)
theorem s_one (h : dS X E F st ρ μ N) : dSs X E F [st] ρ μ N := fun σ G H sr m pf D po => w_pss (pss_one ps_w) (h σ G H sr m pf D po)
theorem dS.mono {N' : DN} (h : dS X E F st ρ μ N) (h1 : ∀ ρ' μ', N.nx ρ' μ' → N'.nx ρ' μ') (h2 : ∀ a μ', N.rt a μ' → N'.rt a μ') (h3 : ∀ ρ' μ', N.bk ρ' μ' → N'.bk ρ' μ') (h4 : ∀ ρ' μ', N.ct ρ' μ' → N'.ct ρ' μ') : dS X E F st ρ μ N' := fun σ G H sr m pf D po =>
  h σ G H sr m pf D ⟨fun a b c d e f => po.nx a b c d e (h1 _ _ f), fun a b c d e f => po.rt a b c d e (h2 _ _ f), fun a b c d e f => po.bk a b c d e (h3 _ _ f), fun a b c d e f => po.ct a b c d e (h4 _ _ f)⟩
theorem dSs.mono {N' : DN} (h : dSs X E F sts ρ μ N) (h1 : ∀ ρ' μ', N.nx ρ' μ' → N'.nx ρ' μ') (h2 : ∀ a μ', N.rt a μ' → N'.rt a μ') (h3 : ∀ ρ' μ', N.bk ρ' μ' → N'.bk ρ' μ') (h4 : ∀ ρ' μ', N.ct ρ' μ' → N'.ct ρ' μ') : dSs X E F sts ρ μ N' := fun σ G H sr m pf D po =>
  h σ G H sr m pf D ⟨fun a b c d e f => po.nx a b c d e (h1 _ _ f), fun a b c d e f => po.rt a b c d e (h2 _ _ f), fun a b c d e f => po.bk a b c d e (h3 _ _ f), fun a b c d e f => po.ct a b c d e (h4 _ _ f)⟩
theorem s_ret (h : dE X E F e ρ μ N.rt) : dS X E F (.Return (some e) pos) ρ μ N := fun σ G H sr m pf D po => w_ps (ps_ret pe_w) (h σ G H sr m pf D.rt po.rt)
theorem s_expr (h : dE X E F e ρ μ fun _ μ1 => N.nx ρ μ1) (hs : swapsWith e none pos.line X.env = pure false := by rfl) : dS X E F (.Expr e pos) ρ μ N := fun σ G H sr m pf D po => by
  refine w_ps (ps_expr pe_w hs) ?_
  exact h σ G H sr m pf _ fun v a G1 μ1 H1 h1 s1 m1 r => po.nx σ ρ G1 μ1 H1 h1 s1 m1 (sr.ext s1.ex)
theorem s_if (h : dT X E F c ρ μ fun t μ1 => (t = true → dSs X E F body ρ μ1 N) ∧ (t = false → dSs X E F els ρ μ1 N)) : dS X E F (.If c body els pos) ρ μ N := fun σ G H sr m pf D po => by
  refine w_ps (ps_if pt_w pss_w pss_w) ?_
  refine h σ G H sr m pf _ fun t G1 μ1 H1 h1 s1 m1 => ?_
  cases t with
  | true => exact iteT (h1.1 rfl σ G1 H1 (sr.ext s1.ex) m1 (pf.step s1) D (po.step s1))
  | false => exact iteF (h1.2 rfl σ G1 H1 (sr.ext s1.ex) m1 (pf.step s1) D (po.step s1))
theorem s_set (i : Nat) {p' : Pos} (h : dE X E F e ρ μ fun a μ1 => N.nx (ρ.set i (some a)) μ1) (hN : X.N.Nodup) (hi : X.N[i]? = some x := by rfl) (hx : Loc X.env.scope x := by first | exact Or.inl rfl | exact Or.inr rfl)
    (hs : swapsWith e (some (.Name x p')) pos.line X.env = pure false := by rfl) (hf : X.fn x = true ∨ X.env.scope.names.lookup x = some .local := by first | exact .inl rfl | exact .inr rfl | assumption) : dS X E F (.Assign [.Name x p'] e pos) ρ μ N := fun σ G H sr m pf D po => by
  refine w_ps (ps_set hN hi hx pe_w hs hf) ?_
  exact h σ G H sr m pf _ fun v a G1 μ1 H1 h1 s1 m1 r => po.nx _ _ G1 μ1 H1 h1 s1 m1 ((sr.ext s1.ex).set i r)
/-- targets -/
theorem g_name (i : Nat) {y : AV} {kS : Env' → Mu → Prop} (h : kS (ρ.set i (some y)) μ) (hN : X.N.Nodup) (hi : X.N[i]? = some x := by rfl) (hx : Loc X.env.scope x := by first | exact Or.inl rfl | exact Or.inr rfl)
    (hf : X.fn x = true ∨ X.env.scope.names.lookup x = some .local := by first | exact .inl rfl | exact .inr rfl | assumption) : dG X E F (.Name x pos) y ρ μ kS := fun v σ G H r sr m pf Q po => by
  refine w_pg (pg_name hN hi hx hf) ?_
  exact po _ _ G μ H h (Stp.refl _ _ _) m (sr.set i r)
def wGs (X : Cx) (ts : List Expr) : TGs := fun vs σ H Q => ∀ (pins : List (Addr × Obj)) (s : Shared) (us : List Value), Inv X pins σ H s → Vals vs us →
  wpAny (model X.prog X.w) X.A (assignInOrder ((assignEach ts X.env).map (·.2)) us) (fun _ s' => ∃ σ2 H2, Inv X pins σ2 H2 s' ∧ Q σ2 H2) X.xe s
theorem pgs_w {ts : List Expr} : PGs X ts (wGs X ts) := ⟨fun pins s σ H vs us Q I r h => h pins s us I r⟩
theorem w_pgs {ts : List Expr} {t : TGs} (h : PGs X ts t) {σ : St} {H : Hp} {vs : List V} {Q : St → Hp → Prop} (q : t vs σ H Q) : wGs X ts vs σ H Q := fun pins s us I r => h.run pins s σ H vs us Q I r q
def dGs (X : Cx) (E : XK) (F : KF) (ts : List Expr) (as : List AV) (ρ : Env') (μ : Mu) (kS : Env' → Mu → Prop) : Prop := ∀ vs σ G H, Reps X.K G vs as → SR X.K G σ ρ → MOk X.K G μ H → PostF X.K G μ H F E → ∀ Q, PostS X.K G μ H kS Q → wGs X ts vs σ H Q
theorem gs_nil {kS : Env' → Mu → Prop} (h : kS ρ μ) : dGs X E F [] [] ρ μ kS := fun vs σ G H r sr m pf Q po => by
  cases r
  exact w_pgs pgs_nil ⟨rfl, po _ _ G μ H h (Stp.refl _ _ _) m sr⟩
theorem gs_cons {kS : Env' → Mu → Prop} {y : AV} {ys : List AV} (h : dG X E F e y ρ μ fun ρ1 μ1 => dGs X E F rs ys ρ1 μ1 kS) (hs : (assignEach (e :: rs) X.env).map (·.2) = assign e X.env :: (assignEach rs X.env).map (·.2) := by rfl) : dGs X E F (e :: rs) (y :: ys) ρ μ kS := fun vs σ G H r sr m pf Q po => by
  cases r with
  | cons r rr =>
    refine w_pgs (pgs_cons pg_w pgs_w hs) ⟨_, _, rfl, ?_⟩
    refine h _ σ G H r sr m pf _ fun σ1 ρ1 G1 μ1 H1 h1 s1 m1 sr1 => ?_
    exact h1 _ σ1 G1 H1 (Reps.ext s1.ex rr) sr1 m1 (pf.step s1) Q (po.step s1)
theorem g_tup {j n : Nat} {y : AV} {kS : Env' → Mu → Prop} (hc : X.calm = true) (h : ∃ ds, y = tv ds ∧ ds.length = n ∧ dGs X E F rs (ds.map .d) ρ μ kS) (hn : (assignEach rs X.env).length = n := by rfl) (hst : (assignEach rs X.env).findIdx? (·.1) = none := by rfl) : dG X E F (.Tuple rs j pos) y ρ μ kS := fun v σ G H r sr m pf Q po => by
  obtain ⟨ds, rfl, hl, h⟩ := h
  refine w_pg (pg_tup hc pgs_w hn hst) ?_
  obtain ⟨p, vs, rfl, hs, rs⟩ := rep_tup r
  exact ⟨p, vs, rfl, Ext.sqT m.sub hs, by rw [Reps.len rs, List.length_map, hl], h vs σ G H rs sr m pf Q po⟩
/-- xs[i] = .. -/
theorem g_subL {i : Expr} {y : AV} {kS : Env' → Mu → Prop} (h : dE X E F o ρ μ fun x μ1 => dE X E F i ρ μ1 fun z μ2 => ∃ p xs n j, x = rv p ∧ z = iv n ∧ μ2 p = some (.lst xs) ∧ ixN xs.length n = some j ∧ kS ρ (mset μ2 p (.lst (xs.set j y))))
    (ha : ∀ v : Value, assign (.Subscript o i pos) X.env v = (do
      let ob ← holding [v] (eval o X.env)
      let iv ← holding [v, ob] (eval i X.env)
      standAt pos
      holding [v, ob, iv] (setItem ob iv v)
      release [v, ob, iv] []) := by intro _; rfl) : dG X E F (.Subscript o i pos) y ρ μ kS := fun v σ G H r sr m pf Q po => by
  refine w_pg (pg_sub pe_w pe_w set_list ha) ?_
  refine h σ G H sr m pf _ fun v1 a1 G1 μ1 H1 h1 s1 m1 r1 => ?_
  refine h1 σ G1 H1 (sr.ext s1.ex) m1 (pf.step s1) _ fun v2 a2 G2 μ2 H2 h2 s2 m2 r2 => ?_
  obtain ⟨p, xs, n, j, rfl, rfl, hp, hj, q⟩ := h2
  have s3 := s1.trans s2
  obtain ⟨_, vs, e, rs⟩ := m2.obj p _ hp
  obtain rfl : v1 = V.ref p := r1
  refine ⟨p, vs, n, j, rfl, rep_int r2, e, by rw [Reps.len rs]; exact hj, ?_⟩
  exact po _ _ G2 _ _ q (s3.trans (Stp.put (.inr ⟨_, hp⟩))) (m2.put (.inr ⟨_, hp⟩) ⟨_, upd_same, Reps.set (r.ext s3.ex) j rs⟩) (sr.ext s3.ex)
theorem s_asg (h : dE X E F e ρ μ fun a μ1 => dG X E F tg a ρ μ1 N.nx) (hs : swapsWithSole [tg] e pos.line X.env = pure false := by rfl) (hw : swappedStores [tg] e X.env = pure none := by rfl)
    (h1 : (assignEach [tg] X.env).map (·.2) = [assign tg X.env] := by rfl) : dS X E F (.Assign [tg] e pos) ρ μ N := fun σ G H sr m pf D po => by
  refine w_ps (ps_asg pe_w pg_w hs hw h1) ?_
  refine h σ G H sr m pf _ fun v a G1 μ1 H1 h1 s1 m1 r => ?_
  exact h1 v σ G1 H1 r (sr.ext s1.ex) m1 (pf.step s1) _ (po.nx.step s1)
/-- name -= e -/
theorem s_subA (i : Nat) {pos' : Pos} {n : Int} (hρ : ρ[i]? = some (some (iv n))) (h : dE X E F e ρ μ fun a μ1 => ∃ j, a = iv j ∧ N.nx (ρ.set i (some (iv (n - j)))) μ1) (hN : X.N.Nodup) (hi : X.N[i]? = some x := by rfl) (hx : Loc X.env.scope x := by first | exact Or.inl rfl | exact Or.inr rfl)
    (hf : X.fn x = true ∨ X.env.scope.names.lookup x = some .local := by first | exact .inl rfl | exact .inr rfl | assumption) : dS X E F (.AugAssign (.Name x pos') .Sub e pos) ρ μ N := fun σ G H sr m pf D po => by
  refine w_ps (ps_aug hN hi hx pe_w ip_sub hf) ?_
  obtain ⟨v, h1, h2⟩ := sr.get i _ hρ
  refine ⟨v, h1, ?_⟩
  refine h σ G H sr m pf _ fun u a G1 μ1 H1 h3 s1 m1 r => ?_
  obtain ⟨j, rfl, q⟩ := h3
  exact ⟨n, j, rep_int h2, rep_int r, po.nx _ _ G1 μ1 H1 q s1 m1 ((sr.ext s1.ex).set i (ri _))⟩
/-- e.f = value -/
def putA (f : Str) (a : AV) : List (Str × AV) → List (Str × AV)
  | [] => [(f, a)]
  | (g, u) :: r => if g = f then (g, a) :: r else (g, u) :: putA f a r
abbrev FRep (K : PySem.W.Frag) (G : Hp) : List (Str × V) → List (Str × AV) → Prop := Paired fun (q : Str × V) (r : Str × AV) => q.1 = r.1 ∧ Rep K G q.2 r.2
theorem putA_rep {K : PySem.W.Frag} {G : Hp} {f : Str} {v : V} {a : AV} (r : Rep K G v a) : ∀ {vs : List (Str × V)} {fs : List (Str × AV)}, FRep K G vs fs → FRep K G (putF f v vs) (putA f a fs)
  | _, _, .nil => .cons ⟨rfl, r⟩ .nil
  | (n, u) :: vs, (n', a') :: fs, .cons ⟨e, r'⟩ t => by
    obtain rfl : n = n' := e
    unfold putF putA
    by_cases q : n = f
    · rw [if_pos q, if_pos q]
      exact .cons ⟨rfl, r⟩ t
    · rw [if_neg q, if_neg q]
      exact .cons ⟨rfl, r'⟩ (putA_rep r t)
theorem s_fld {f : Str} {p' : Pos} (h : dE X E F e ρ μ fun y μ1 => dE X E F o ρ μ1 fun x μ2 => ∃ p C fs, x = rv p ∧ μ2 p = some (.ins C fs) ∧ Cls X.K C ∧ NoAttr X.K C f ∧ fs.length < 1000 ∧ N.nx ρ (mset μ2 p (.ins C (putA f y fs))))
    (hs : swapsWith e (some (.Attribute o f p')) pos.line X.env = pure false := by rfl) : dS X E F (.Assign [.Attribute o f p'] e pos) ρ μ N := fun σ G H sr m pf D po => by
  refine w_ps (ps_fld pe_w pe_w hs) ?_
  refine h σ G H sr m pf _ fun v y G1 μ1 H1 h1 s1 m1 r1 => ?_
  refine h1 σ G1 H1 (sr.ext s1.ex) m1 (pf.step s1) _ fun u x G2 μ2 H2 h2 s2 m2 r2 => ?_
  obtain ⟨p, C, fs, rfl, hp, hc, hn, hl, q⟩ := h2
  have s3 := s1.trans s2
  obtain ⟨_, dx, vs, e, pr⟩ := m2.obj p _ hp
  obtain rfl : u = V.ref p := r2
  refine ⟨p, C, dx, vs, rfl, e, hc, hn, by rw [Paired.length pr]; exact hl, ?_⟩
  exact po.nx _ _ G2 _ _ q (s3.trans (Stp.put (.inr ⟨_, hp⟩))) (m2.put (.inr ⟨_, hp⟩) ⟨dx, _, upd_same, putA_rep (r1.ext s2.ex) pr⟩) (sr.ext s3.ex)
/-! ### ghost steps -/
/-- a slot's list is from here on data -/
theorem s_freeze (i : Nat) {q : Addr} {ds : List PyData} (hρ : ρ[i]? = some (some (rv q))) (hμ : μ q = some (.lst (ds.map .d))) (h : dSs X E F sts (ρ.set i (some (lv ds))) (mdel μ q) N) : dSs X E F sts ρ μ N := fun σ G H sr m pf D po => by
  obtain ⟨_, vs, e, rs⟩ := m.obj q _ hμ
  have g0 := (m.obj q _ hμ).1
  have s1 : Stp G μ H (upd G q (.lst vs)) (mdel μ q) H := Stp.freeze m hμ
  have m1 := m.freeze hμ e
  obtain ⟨v, h1, h2⟩ := sr.get i _ hρ
  obtain rfl : v = V.ref q := h2
  have sr1 : SR X.K (upd G q (.lst vs)) σ (ρ.set i (some (lv ds))) := by
    have z := (sr.ext s1.ex).set (v := .ref q) (a := lv ds) i (show Dp X.K _ _ _ from .lst (SqL.of upd_same) (reps_dpAll (Reps.ext s1.ex rs)))
    have e2 : σ.set i (some (V.ref q)) = σ := by
      obtain ⟨hi, hv⟩ := List.getElem?_eq_some_iff.mp h1
      rw [← hv, List.set_getElem_self]
    rw [e2] at z
    exact z
  exact h σ (upd G q (.lst vs)) H sr1 m1 (pf.step s1) D (po.step s1)
/-- a mutable thing that is not used any more -/
theorem s_drop (q : Addr) (h : dSs X E F sts ρ (mdel μ q) N) : dSs X E F sts ρ μ N := fun σ G H sr m pf D po =>
  h σ G H sr (m.drop q) (pf.step (Stp.drop q)) D (po.step (Stp.drop q))
/-- code that is never come to -/
theorem s_never (h : False) : dS X E F st ρ μ N := h.elim
end
end K87
end

section
set_option Elab.async false
set_option linter.all false
set_option maxRecDepth 100000
set_option maxHeartbeats 1100000
set_option autoImplicit false
namespace K87
open PySem L2
/-! ### what is walked -/
def wI (X : Cx) (tg iter : Expr) : TI := fun σ H R => ∀ (pins : List (Addr × Obj)) (s : Shared), Inv X pins σ H s →
  wpAny (model X.prog X.w) X.A (eval iter X.env) (fun v0 s1 => wpAny (model X.prog X.w) X.A (pyIter v0) (PIE X pins σ tg R) X.xe s1) X.xe s
theorem pi_w {X : Cx} {tg iter : Expr} : PI X tg iter (wI X tg iter) := ⟨fun pins s σ H R I h => h pins s I⟩
theorem w_pi {X : Cx} {tg iter : Expr} {t : TI} (h : PI X tg iter t) {σ : St} {H : Hp} {R : It → Hp → Prop} (q : t σ H R) : wI X tg iter σ H R := fun pins s I => h.run pins s σ H R I q
/-- the iterator hands out xs, while Pm holds of the mutable objects -/
structure JOk (K : PySem.W.Frag) (J : It) (G : Hp) (Pm : Mu → Prop) (xs : List AV) : Prop where
  go : ∀ i H G1 μ1, MOk K G1 μ1 H → Ext G G1 → Pm μ1 → i < xs.length → J.go i H
  stop : ∀ i H G1 μ1, MOk K G1 μ1 H → Ext G G1 → Pm μ1 → xs.length ≤ i → J.stop i H
  yld : ∀ (i : Nat) H v H' G1 μ1 (a : AV), MOk K G1 μ1 H → Ext G G1 → Pm μ1 → xs[i]? = some a → J.yld i H v H' → ∃ G2, Stp G1 μ1 H G2 μ1 H' ∧ MOk K G2 μ1 H' ∧ Rep K G2 v a
def dI (X : Cx) (E : XK) (F : KF) (tg iter : Expr) (ρ : Env') (μ : Mu) (k : List AV → (Mu → Prop) → Mu → Prop) : Prop := ∀ σ G H, SR X.K G σ ρ → MOk X.K G μ H → PostF X.K G μ H F E →
  ∀ R : It → Hp → Prop, (∀ J xs Pm G' μ' H', k xs Pm μ' → Stp G μ H G' μ' H' → MOk X.K G' μ' H' → JOk X.K J G' Pm xs → R J H') → wI X tg iter σ H R
section
variable {X : Cx} {E : XK} {F : KF} {ρ : Env'} {μ : Mu} {k : KV'} {kI : List AV → (Mu → Prop) → Mu → Prop} {a b c e o tg iter elt : Expr} {es rest ifs : List Expr} {pos p2 p apos : Pos} {x : Str} {N : DN} {st : Stmt} {sts body els : List Stmt}
theorem sqL_two {K : PySem.W.Frag} {H : Hp} {p : Addr} {xs ys : List V} {σ : St} {pins : List (Addr × Obj)} {s : Shared} {X : Cx} (I : Inv X pins σ H s) (h : SqL X.K H p xs) (h' : SqL X.K H p ys) : xs = ys := I.list_inj h h'
theorem i_list (h : dE X E F e ρ μ fun y μ1 => ∃ xs, LstA μ1 y xs ∧ kI xs (fun μ' => LstA μ' y xs) μ1) : dI X E F tg e ρ μ kI := fun σ G H sr m pf R po => by
  refine w_pi (pi_list pe_w) ?_
  refine h σ G H sr m pf _ fun v y G1 μ1 H1 h1 s1 m1 r => ?_
  obtain ⟨xs, hx, q⟩ := h1
  obtain ⟨p, vs, rfl, hs, rs⟩ := hx.at m1 r
  refine ⟨p, rfl, ⟨vs, hs⟩, po _ xs _ G1 μ1 H1 q s1 m1 ⟨fun i H2 G2 μ2 m2 ex hy hi => ?_, fun i H2 G2 μ2 m2 ex hy hi => ?_, fun i H2 v H' G2 μ2 a m2 ex hy ha hyl => ?_⟩⟩
  · obtain ⟨p', vs', e, hs', rs'⟩ := hy.at m2 (r.ext ex)
    cases e
    have hl := Reps.len rs'
    exact ⟨vs', vs'[i], hs', List.getElem?_eq_getElem (by omega)⟩
  · obtain ⟨p', vs', e, hs', rs'⟩ := hy.at m2 (r.ext ex)
    cases e
    have hl := Reps.len rs'
    exact ⟨vs', hs', by omega⟩
  · obtain ⟨p', vs', e, hs', rs'⟩ := hy.at m2 (r.ext ex)
    cases e
    obtain ⟨eh, hh⟩ := hyl
    subst eh
    obtain ⟨w, hw, rw'⟩ := Reps.get rs' ha
    have := hh vs' hs'
    rw [hw] at this
    cases this
    exact ⟨G2, Stp.refl _ _ _, m2, rw'⟩
theorem i_tup (h : dE X E F e ρ μ fun y μ1 => ∃ ds, y = tv ds ∧ kI (ds.map .d) (fun _ => True) μ1) : dI X E F tg e ρ μ kI := fun σ G H sr m pf R po => by
  refine w_pi (pi_tup pe_w) ?_
  refine h σ G H sr m pf _ fun v y G1 μ1 H1 h1 s1 m1 r => ?_
  obtain ⟨ds, rfl, q⟩ := h1
  obtain ⟨p, vs, rfl, hs, rs⟩ := rep_tup r
  have hl := Reps.len rs
  refine ⟨p, rfl, ⟨vs, Ext.sqT m1.sub hs⟩, po _ _ _ G1 μ1 H1 q s1 m1 ⟨fun i H2 G2 μ2 m2 ex _ hi => ?_, fun i H2 G2 μ2 m2 ex _ hi => ?_, fun i H2 v H' G2 μ2 a m2 ex _ ha hyl => ?_⟩⟩
  · exact ⟨vs, vs[i], Ext.sqT (ex.trans m2.sub) hs, List.getElem?_eq_getElem (by omega)⟩
  · exact ⟨vs, Ext.sqT (ex.trans m2.sub) hs, by omega⟩
  · obtain ⟨eh, hh⟩ := hyl
    subst eh
    obtain ⟨w, hw, rw'⟩ := Reps.get rs ha
    have := hh vs (Ext.sqT (ex.trans m2.sub) hs)
    rw [hw] at this
    cases this
    exact ⟨G2, Stp.refl _ _ _, m2, rw'.ext ex⟩
def rangeA (lo : Int) (n : Nat) : List AV := (List.range n).map fun (i : Nat) => iv (lo + (i : Int))
theorem rangeA_len (lo : Int) (n : Nat) : (rangeA lo n).length = n := by unfold rangeA; simp
theorem rangeA_get {lo : Int} {n i : Nat} {a : AV} (h : (rangeA lo n)[i]? = some a) : i < n ∧ a = iv (lo + (i : Int)) := by
  unfold rangeA at h
  rw [List.getElem?_map] at h
  by_cases hi : i < n
  · rw [List.getElem?_range hi] at h
    simp at h
    exact ⟨hi, h.symm⟩
  · rw [List.getElem?_eq_none (by simpa using hi)] at h
    simp at h
theorem j_range {K : PySem.W.Frag} {G : Hp} (lo : Int) (n : Nat) : JOk K (Itr lo n) G (fun _ => True) (rangeA lo n) where
  go := fun i H G1 μ1 _ _ _ hi => by rw [rangeA_len] at hi; exact hi
  stop := fun i H G1 μ1 _ _ _ hi => by rw [rangeA_len] at hi; exact hi
  yld := fun i H v H' G1 μ1 a m _ _ ha hy => by
    obtain ⟨rfl, rfl⟩ := hy
    obtain ⟨_, rfl⟩ := rangeA_get ha
    exact ⟨G1, Stp.refl _ _ _, m, ri _⟩
theorem i_range1 {p : Pos} (hg : Gl X "range") (hm : X.mg "range" = none) (h : dA X E F [a] ρ μ fun as μ1 => ∃ n : Int, as = [iv n] ∧ -1000000 ≤ n ∧ n ≤ 1000000 ∧ kI (rangeA 0 n.toNat) (fun _ => True) μ1) (hs : starEach [a] X.env = [(false, eval a X.env)] := by rfl) :
    dI X E F tg (.Call (.Name "range" p) [a] [] pos) ρ μ kI := fun σ G H sr m pf R po => by
  refine w_pi (pi_range1 hg hm pa_w hs) ?_
  refine h σ G H sr m pf _ fun vs as G1 μ1 H1 h1 s1 m1 r => ?_
  obtain ⟨n, rfl, h1, h2, q⟩ := h1
  obtain ⟨v, rfl, rv⟩ := reps1 r
  exact ⟨n, by rw [rep_int rv], by omega, by omega, po _ _ _ G1 μ1 H1 q s1 m1 (j_range 0 n.toNat)⟩
theorem i_range2 {p : Pos} (hg : Gl X "range") (hm : X.mg "range" = none) (h : dA X E F [a, b] ρ μ fun as μ1 => ∃ l n : Int, as = [iv l, iv n] ∧ (-1000000 ≤ l ∧ l ≤ 1000000 ∧ -1000000 ≤ n ∧ n ≤ 1000000) ∧ kI (rangeA l (n - l).toNat) (fun _ => True) μ1) (hs : starEach [a, b] X.env = [(false, eval a X.env), (false, eval b X.env)] := by rfl)
    (hs2 : starEach [b] X.env = [(false, eval b X.env)] := by rfl) : dI X E F tg (.Call (.Name "range" p) [a, b] [] pos) ρ μ kI := fun σ G H sr m pf R po => by
  refine w_pi (pi_range2 hg hm pa_w hs hs2) ?_
  refine h σ G H sr m pf _ fun vs as G1 μ1 H1 h1 s1 m1 r => ?_
  obtain ⟨l, n, rfl, ⟨h1, h2, h3, h4⟩, q⟩ := h1
  obtain ⟨v, u, rfl, rv, ru⟩ := reps2 r
  exact ⟨l, n, by rw [rep_int rv, rep_int ru], ⟨by omega, by omega, by omega, by omega⟩, po _ _ _ G1 μ1 H1 q s1 m1 (j_range l (n - l).toNat)⟩
/-! ### for, while -/
theorem s_for (hp : PassesOwn (model X.prog X.w) X.A X.env X.xe) (hc : X.calm = true)
    (h : dI X E F tg iter ρ μ fun xs Pm μ1 => ∃ Iv : Nat → Env' → Mu → Prop, Iv 0 ρ μ1 ∧ (∀ i ρ' μ', i ≤ xs.length → Iv i ρ' μ' → Pm μ') ∧
      (∀ (i : Nat) (y : AV) ρ' μ', xs[i]? = some y → Iv i ρ' μ' → dG X E F tg y ρ' μ' fun ρ2 μ2 => dSs X E F body ρ2 μ2 { nx := Iv (i + 1), rt := N.rt, bk := N.nx, ct := Iv (i + 1) }) ∧ ∀ ρ' μ', Iv xs.length ρ' μ' → N.nx ρ' μ')
    (hs : ∀ x, foldedSetIterable iter X.env x = pure x := by intro _; rfl) : dS X E F (.For tg iter body [] pos) ρ μ N := fun σ G H sr m pf D po => by
  refine w_ps (ps_for hp hc pi_w pg_w pss_w hs) ?_
  refine h σ G H sr m pf _ fun J xs Pm G1 μ1 H1 h1 s1 m1 j1 => ?_
  obtain ⟨Iv, i0, iP, iT, iE⟩ := h1
  refine ⟨fun i n σ' H' => n = xs.length - i ∧ i ≤ xs.length ∧ ∃ ρ' G' μ', Iv i ρ' μ' ∧ SR X.K G' σ' ρ' ∧ MOk X.K G' μ' H' ∧ Stp G1 μ1 H1 G' μ' H', ⟨_, rfl, Nat.zero_le _, ρ, G1, μ1, i0, sr.ext s1.ex, m1, Stp.refl _ _ _⟩, ?_⟩
  rintro i n σ2 H2 ⟨rfl, hi, ρ2, G2, μ2, iv2, sr2, m2, s2⟩
  have pm := iP i ρ2 μ2 hi iv2
  have s3 := s1.trans s2
  by_cases hlt : i < xs.length
  · refine .inr ⟨j1.go i H2 G2 μ2 m2 s2.ex pm hlt, fun σ' H' => ∃ ρ' G' μ', Iv (i + 1) ρ' μ' ∧ SR X.K G' σ' ρ' ∧ MOk X.K G' μ' H' ∧ Stp G1 μ1 H1 G' μ' H', fun σ' H' hn => ⟨xs.length - (i + 1), by omega, rfl, hlt, hn⟩, fun v H3 hy => ?_⟩
    obtain ⟨G3, st3, m3, r3⟩ := j1.yld i H2 v H3 G2 μ2 xs[i] m2 s2.ex pm (List.getElem?_eq_getElem hlt) hy
    have s4 := s3.trans st3
    refine iT i xs[i] ρ2 μ2 (List.getElem?_eq_getElem hlt) iv2 v σ2 G3 H3 r3 (sr2.ext st3.ex) m3 (pf.step s4) _ fun σ4 ρ4 G4 μ4 H4 h4 st4 m4 sr4 => ?_
    have s5 := s4.trans st4
    have s6 := (s2.trans st3).trans st4
    refine h4 σ4 G4 H4 sr4 m4 (pf.step s5) _ ⟨?_, po.rt.step s5, po.nx.step s5, ?_⟩
    · exact fun σ5 ρ5 G5 μ5 H5 h5 st5 m5 sr5 => ⟨ρ5, G5, μ5, h5, sr5, m5, s6.trans st5⟩
    · exact fun σ5 ρ5 G5 μ5 H5 h5 st5 m5 sr5 => ⟨ρ5, G5, μ5, h5, sr5, m5, s6.trans st5⟩
  · have e : (i = xs.length) := by omega
    subst e
    exact .inl ⟨j1.stop _ H2 G2 μ2 m2 s2.ex pm (Nat.le_refl _), (po.step s3).nxAt (iE ρ2 μ2 iv2) m2 sr2⟩
theorem s_while (hp : PassesOwn (model X.prog X.w) X.A X.env X.xe) (Iv : Nat → Env' → Mu → Prop) (m0 : Nat) (i0 : Iv m0 ρ μ)
    (h : ∀ n ρ' μ', Iv n ρ' μ' → dT X E F c ρ' μ' fun t μ1 => (t = true → dSs X E F body ρ' μ1 { nx := fun ρ2 μ2 => ∃ n', n' < n ∧ Iv n' ρ2 μ2, rt := N.rt, bk := N.nx, ct := fun ρ2 μ2 => ∃ n', n' < n ∧ Iv n' ρ2 μ2 }) ∧ (t = false → N.nx ρ' μ1)) :
    dS X E F (.While c body [] pos) ρ μ N := fun σ G H sr m pf D po => by
  refine w_ps (ps_while hp pt_w pss_w) ?_
  refine ⟨fun n σ' H' => ∃ ρ' G' μ', Iv n ρ' μ' ∧ SR X.K G' σ' ρ' ∧ MOk X.K G' μ' H' ∧ Stp G μ H G' μ' H', ⟨m0, ρ, G, μ, i0, sr, m, Stp.refl _ _ _⟩, ?_⟩
  rintro n σ1 H1 ⟨ρ1, G1, μ1, i1, sr1, m1, s1⟩
  refine h n ρ1 μ1 i1 σ1 G1 H1 sr1 m1 (pf.step s1) _ fun t G2 μ2 H2 h2 s2 m2 => ?_
  have s3 := s1.trans s2
  cases t with
  | false => exact iteF ((po.step s3).nxAt (h2.2 rfl) m2 (sr1.ext s2.ex))
  | true =>
    refine iteT ⟨fun σ' H' => ∃ n', n' < n ∧ ∃ ρ' G' μ', Iv n' ρ' μ' ∧ SR X.K G' σ' ρ' ∧ MOk X.K G' μ' H' ∧ Stp G μ H G' μ' H', fun σ' H' ⟨n', hn, hw⟩ => ⟨n', hn, hw⟩, ?_⟩
    refine h2.1 rfl σ1 G2 H2 (sr1.ext s2.ex) m2 (pf.step s3) _ ⟨?_, po.rt.step s3, po.nx.step s3, ?_⟩
    · exact fun σ5 ρ5 G5 μ5 H5 ⟨n', hn, h5⟩ st5 m5 sr5 => ⟨n', hn, ρ5, G5, μ5, h5, sr5, m5, s3.trans st5⟩
    · exact fun σ5 ρ5 G5 μ5 H5 ⟨n', hn, h5⟩ st5 m5 sr5 => ⟨n', hn, ρ5, G5, μ5, h5, sr5, m5, s3.trans st5⟩
/-! ### list methods -/
theorem d_append (h : dE X E F o ρ μ fun x μ1 => ∃ p xs, x = rv p ∧ μ1 p = some (.lst xs) ∧ dE X E F e ρ μ1 fun y μ2 => ∃ xs, μ2 p = some (.lst xs) ∧ xs.length < 1000000 ∧ k nv (mset μ2 p (.lst (xs ++ [y]))))
    (hbase : attributeBase o "append" X.env (eval o X.env) = eval o X.env := by rfl)
    (hfew : ((backTo pos (starEach [e] X.env)).all (fun x => !x.1) && (backToKw pos (keywordEach [] X.env)).all (fun x => x.1.isSome) && decide ([e].length + ([] : List Keyword).length + (if ([] : List Keyword).isEmpty then 0 else 1) < 30)) = true := by rfl)
    (hline : (apos.endLine == pos.line) = true := by rfl) (hs : starEach [e] X.env = (false, eval e X.env) :: starEach [] X.env := by rfl) (hplain : (backTo pos (starEach [] X.env)).any (·.1) = false := by rfl) :
    dE X E F (.Call (.Attribute o "append" apos) [e] [] pos) ρ μ k := fun σ G H sr m pf Q po => by
  refine w_pe (pe_bm PySem.F.plainAttrs_list PySem.F.slot_list_append PySem.F.type_list_append mt_append pe_w (pa_cons (es := []) pe_w pa_nil hs) hbase hfew hline hs hplain) ?_
  refine h σ G H sr m pf _ fun v y G1 μ1 H1 h1 s1 m1 r => ?_
  obtain ⟨p, xs, rfl, hp, h1⟩ := h1
  obtain ⟨_, vs, e, rs⟩ := m1.obj p _ hp
  obtain rfl : v = V.ref p := r
  refine ⟨.inl ⟨rfl, vs, SqL.of e⟩, ?_⟩
  refine h1 σ G1 H1 (sr.ext s1.ex) m1 (pf.step s1) _ fun u y G2 μ2 H2 h2 s2 m2 r2 => ?_
  obtain ⟨xs2, hp2, hl, q⟩ := h2
  obtain ⟨_, vs2, e2, rs2⟩ := m2.obj p _ hp2
  refine ⟨p, vs2, u, rfl, rfl, e2, by rw [Reps.len rs2, sizeLine_eq]; omega, ?_⟩
  exact po .non nv G2 _ _ q ((s1.trans s2).trans (Stp.put (.inr ⟨_, hp2⟩))) (m2.put (.inr ⟨_, hp2⟩) ⟨_, upd_same, Reps.append rs2 (.cons r2 .nil)⟩) Dp.non
theorem d_pop (h : dE X E F o ρ μ fun x μ1 => ∃ p xs y, x = rv p ∧ μ1 p = some (.lst (xs ++ [y])) ∧ k y (mset μ1 p (.lst xs)))
    (hbase : attributeBase o "pop" X.env (eval o X.env) = eval o X.env := by rfl) (hline : (apos.endLine == pos.line) = true := by rfl) : dE X E F (.Call (.Attribute o "pop" apos) [] [] pos) ρ μ k := fun σ G H sr m pf Q po => by
  refine w_pe (pe_bm0 PySem.F.plainAttrs_list PySem.F.slot_list_pop PySem.F.type_list_pop mt_pop pe_w hbase hline) ?_
  refine h σ G H sr m pf _ fun v y G1 μ1 H1 h1 s1 m1 r => ?_
  obtain ⟨p, xs, y, rfl, hp, q⟩ := h1
  obtain ⟨_, vs, e, rs⟩ := m1.obj p _ hp
  obtain rfl : v = V.ref p := r
  have hl := Reps.len rs
  (rw [List.length_append, List.length_singleton] at hl); obtain ⟨u, hu, ru⟩ := Reps.get rs (i := xs.length) (a := y) (by simp)
  refine ⟨.inl ⟨rfl, vs, SqL.of e⟩, p, vs, u, rfl, rfl, e, by rw [hl]; exact hu, ?_⟩
  have rd := Reps.dropLast rs
  rw [List.dropLast_concat] at rd
  exact po u y G1 _ _ q (s1.trans (Stp.put (.inr ⟨_, hp⟩))) (m1.put (.inr ⟨_, hp⟩) ⟨_, upd_same, rd⟩) ru
end
end K87
end

section
set_option Elab.async false
set_option linter.all false
set_option maxRecDepth 100000
set_option maxHeartbeats 1100000
set_option autoImplicit false
namespace K87
open PySem L2
/-! ### list comprehensions -/
def wipeR (ρ : Env') : List Nat → Env'
  | [] => ρ
  | v :: vs => (wipeR ρ vs).set v none
theorem SR.unset {K : PySem.W.Frag} {G : Hp} {σ : St} {ρ : Env'} (h : SR K G σ ρ) (i : Nat) : SR K G (σ.set i none) (ρ.set i none) := by
  refine ⟨by simp [h.len], fun j b q => ?_⟩
  by_cases e : j = i
  · subst e
    have hj : j < ρ.length := by
      have := (List.getElem?_eq_some_iff.mp q).1
      simpa using this
    rw [List.getElem?_set_self hj] at q
    cases q
  · rw [List.getElem?_set_ne (Ne.symm e)] at q ⊢
    exact h.get j b q
theorem SR.wipe {K : PySem.W.Frag} {G : Hp} {σ : St} {ρ : Env'} (h : SR K G σ ρ) : ∀ vs : List Nat, SR K G (L2.wipe σ vs) (wipeR ρ vs)
  | [] => h
  | v :: vs => (SR.wipe h vs).unset v
theorem wipe_at {σ : St} {i : Nat} : ∀ {vs : List Nat}, i ∈ vs → (L2.wipe σ vs)[i]? = some none ∨ σ.length ≤ i
  | v :: vs, h => by
    by_cases e : v = i
    · subst e
      by_cases hl : v < σ.length
      · left
        show ((L2.wipe σ vs).set v none)[v]? = _
        rw [List.getElem?_set_self (by rw [wipe_length]; exact hl)]
      · exact .inr (Nat.le_of_not_lt hl)
    · have h' : i ∈ vs := (List.mem_cons.mp h).resolve_left (fun z => e z.symm)
      rcases wipe_at h' with q | q
      · left
        show ((L2.wipe σ vs).set v none)[i]? = _
        rw [List.getElem?_set_ne e]
        exact q
      · exact .inr q
theorem wipe_eq {σ τ : St} {vs : List Nat} (hl : σ.length = τ.length) (h : ∀ i, i ∉ vs → σ[i]? = τ[i]?) : L2.wipe σ vs = L2.wipe τ vs := by
  refine List.ext_getElem? fun i => ?_
  by_cases hi : i ∈ vs
  · rcases wipe_at (σ := σ) hi with q | q
    · rcases wipe_at (σ := τ) hi with q' | q'
      · rw [q, q']
      · have := (List.getElem?_eq_some_iff.mp q).1
        rw [wipe_length] at this
        omega
    · rw [List.getElem?_eq_none (by rw [wipe_length]; exact q), List.getElem?_eq_none (by rw [wipe_length, ← hl]; exact q)]
  · rw [wipe_out hi, wipe_out hi]
    exact h i hi
/-- a target's reading: what it binds, changing the block's own slots alone -/
def Bd (K : PySem.W.Frag) (g : TG) (vs : List Nat) (bind : AV → Env' → Option Env') : Prop :=
  ∀ (G H : Hp) (v : V) (a : AV) (σ : St) (ρ ρ' : Env') (Q : St → Hp → Prop), Rep K G v a → Ext G H → SR K G σ ρ → bind a ρ = some ρ' → (∀ σ', SR K G σ' ρ' → L2.wipe σ' vs = L2.wipe σ vs → Q σ' H) → g v σ H Q
theorem bd_name {K : PySem.W.Frag} (i : Nat) : Bd K (gName i) [i] (fun a ρ => some (ρ.set i (some a))) := fun G H v a σ ρ ρ' Q r ex sr hb q => by
  cases hb
  refine q _ (sr.set i r) (wipe_eq (by simp) fun j hj => ?_)
  have e : i ≠ j := fun z => hj (by rw [z]; exact List.mem_singleton.mpr rfl)
  rw [List.getElem?_set_ne e]
def bind2 (i j : Nat) : AV → Env' → Option Env' := fun a ρ => match a with
  | .d (.tuple [x, y]) => some ((ρ.set i (some (.d x))).set j (some (.d y)))
  | _ => none
theorem bd_two {K : PySem.W.Frag} (i j : Nat) : Bd K (gTup K 2 (gCons (gName i) (gCons (gName j) gNil))) [i, j] (bind2 i j) := fun G H v a σ ρ ρ' Q r ex sr hb q => by
  unfold bind2 at hb
  split at hb
  · rename_i x y
    cases hb
    obtain ⟨p, vs, rfl, hs, rs⟩ := rep_tup r
    cases rs with
    | cons r1 t1 =>
      cases t1 with
      | cons r2 t2 =>
        cases t2
        refine ⟨p, _, rfl, Ext.sqT ex hs, rfl, _, _, rfl, _, _, rfl, rfl, ?_⟩
        refine q _ ((sr.set i r1).set j r2) (wipe_eq (by simp) fun n hn => ?_)
        have e1 : i ≠ n := fun z => hn (by rw [z]; simp)
        have e2 : j ≠ n := fun z => hn (by rw [z]; simp)
        rw [List.getElem?_set_ne e2, List.getElem?_set_ne e1]
  · cases hb
/-- a block's expression, whatever the block's frame -/
def bE (X : Cx) (scope : Scope) (e : Expr) : TE := fun σ H Q => ∀ (s : Shared) (H0 : Hp) (C : Addr) (cl : List (Str × Addr)) (fp : List Addr), wE (X.blk s H0 scope (compEnvC scope cl C X.env) fp) e σ H Q
def bT (X : Cx) (scope : Scope) (e : Expr) : TT := fun σ H Q => ∀ (s : Shared) (H0 : Hp) (C : Addr) (cl : List (Str × Addr)) (fp : List Addr), wT (X.blk s H0 scope (compEnvC scope cl C X.env) fp) e σ H Q
def bTs (X : Cx) (scope : Scope) : List Expr → TT
  | [] => tYes
  | [c] => bT X scope c
  | _ => fun _ _ _ => False
/-- .. over data -/
def dbE (X : Cx) (scope : Scope) (e : Expr) (ρ : Env') (μ : Mu) (k : KV') : Prop := ∀ (s : Shared) (H0 : Hp) (C : Addr) (cl : List (Str × Addr)) (fp : List Addr), dE (X.blk s H0 scope (compEnvC scope cl C X.env) fp) E0 F0 e ρ μ k
def dbTs (X : Cx) (scope : Scope) : List Expr → Env' → Mu → (Bool → Mu → Prop) → Prop
  | [], _, μ, k => k true μ
  | [c], ρ, μ, k => ∀ (s : Shared) (H0 : Hp) (C : Addr) (cl : List (Str × Addr)) (fp : List Addr), dT (X.blk s H0 scope (compEnvC scope cl C X.env) fp) E0 F0 c ρ μ k
  | _, _, _, _ => False
section
variable {X : Cx} {E : XK} {F : KF} {ρ : Env'} {μ : Mu} {k : KV'} {e tg iter elt : Expr} {ifs : List Expr} {pos : Pos} {scope : Scope} {own : List (Str × Nat)} {g : TG} {bind : AV → Env' → Option Env'}
theorem pts_b {s : Shared} {H0 : Hp} {C : Addr} {cl : List (Str × Addr)} {fp : List Addr} : ∀ ifs : List Expr, PTs (X.blk s H0 scope (compEnvC scope cl C X.env) fp) ifs (bTs X scope ifs)
  | [] => pts_nil
  | [c] => pts_one ⟨fun pins s1 σ H Q I h => h s H0 C cl fp pins s1 I⟩
  | _ :: _ :: _ => ⟨fun pins s1 σ H Q I h => False.elim h⟩
/-- the comprehension's wish over data -/
def LcW (X : Cx) (scope : Scope) (vs : List Nat) (bind : AV → Env' → Option Env') (ifs : List Expr) (elt : Expr) (ρ : Env') (k : KV') : List AV → (Mu → Prop) → Mu → Prop := fun xs Pm μ1 =>
  ∃ Iv : Nat → List AV → Mu → Prop, Iv 0 [] μ1 ∧ (∀ i acc μ', i ≤ xs.length → Iv i acc μ' → Pm μ' ∧ acc.length < 1000000) ∧
    (∀ (i : Nat) (y : AV) acc μ', xs[i]? = some y → Iv i acc μ' → ∃ ρ', bind y (wipeR ρ vs) = some ρ' ∧ dbTs X scope ifs ρ' μ' fun b μ2 => (b = true → dbE X scope elt ρ' μ2 fun z μ3 => Iv (i + 1) (acc ++ [z]) μ3) ∧ (b = false → Iv (i + 1) acc μ2)) ∧
    ∀ acc μ', Iv xs.length acc μ' → NewL μ' acc k
theorem MOk.adopt {K : PySem.W.Frag} {G H : Hp} {μ : Mu} {p : Addr} {o : HO} (m : MOk K G μ H) (hH : H p = some o) (hG : G p = none) (hμ : μ p = none) : MOk K (upd G p o) μ H := by
  refine ⟨fun a u q => ?_, fun q t z => ?_⟩
  · by_cases z : a = p
    · subst z; rw [upd_same] at q; cases q; exact hH
    · rw [upd_ne z] at q; exact m.sub a u q
  · have hq : q ≠ p := fun y => by subst y; rw [hμ] at z; cases z
    obtain ⟨h1, h2⟩ := m.obj q t z
    exact ⟨by rw [upd_ne hq]; exact h1, h2.move (Ext.new hG) fun _ y => y⟩
theorem MOk.mine {K : PySem.W.Frag} {G H : Hp} {μ : Mu} {p : Addr} {r : RO} (m : MOk K G μ H) (hG : G p = none) (ok : ROk K G H p r) : MOk K G (mset μ p r) H :=
  ⟨m.sub, fun q t z => by
    by_cases e : q = p
    · subst e; rw [mset_same] at z; cases z; exact ⟨hG, ok⟩
    · rw [mset_ne e] at z; exact m.obj q t z⟩
theorem MOk.other {K : PySem.W.Frag} {G H : Hp} {μ : Mu} {p : Addr} {o : HO} (m : MOk K G μ H) (hG : G p = none) (hμ : μ p = none) : MOk K G μ (upd H p o) :=
  ⟨fun a u e => by rw [upd_ne (ne_of_none e hG)]; exact m.sub a u e, fun q t z => by
    have hq : q ≠ p := fun y => by subst y; rw [hμ] at z; cases z
    obtain ⟨h1, h2⟩ := m.obj q t z
    exact ⟨h1, h2.move (Ext.refl G) fun u y => by rw [upd_ne hq]; exact y⟩⟩
theorem Stp.over {G H G' H' : Hp} {μ μ' : Mu} {p : Addr} {o : HO} (s : Stp G μ H G' μ' H') (h : H p = none) : Stp G μ H G' μ' (upd H' p o) :=
  ⟨s.ex, fun a u m e => by rw [upd_ne (ne_of_none e h)]; exact s.keep a u m e, s.new, s.adp⟩
theorem Stp.adopt {G H G' H' : Hp} {μ μ' : Mu} {p : Addr} {o : HO} (s : Stp G μ H G' μ' H') (h : H p = none ∨ ∃ o', μ p = some o') (g : G' p = none) : Stp G μ H (upd G' p o) μ' H' :=
  ⟨s.ex.trans (Ext.new g), s.keep, s.new, fun a u m g' e => by
    have z : a ≠ p := by
      rintro rfl
      rcases h with h | ⟨o', h⟩
      · rw [h] at e; cases e
      · rw [h] at m; cases m
    rw [upd_ne z]; exact s.adp a u m g' e⟩
theorem Stp.mine {G H G' H' : Hp} {μ μ' : Mu} {p : Addr} {r : RO} (s : Stp G μ H G' μ' H') (h : H p = none ∨ ∃ o', μ p = some o') : Stp G μ H G' (mset μ' p r) H' :=
  ⟨s.ex, s.keep, fun a u e => by
    by_cases z : a = p
    · subst z; exact h.symm
    · rw [mset_ne z] at e; exact s.new a u e, s.adp⟩
theorem Stp.back {G H G' H' : Hp} {μ μ' : Mu} {p : Addr} (s : Stp G μ H G' μ' H') (h : H' p = none) : H p = none ∨ ∃ o', μ p = some o' := by
  cases q : μ p with
  | some o' => exact .inr ⟨o', rfl⟩
  | none =>
    cases z : H p with
    | none => exact .inl rfl
    | some u => have := s.keep p u q z; rw [h] at this; cases this
/-- a thing outside stays as it is -/
theorem Stp.stay {G H G' H' : Hp} {μ μ' : Mu} {p : Addr} {o : HO} (s : Stp G μ H G' μ' H') (h1 : H p = some o) (h2 : G p = none) (h3 : μ p = none) : H' p = some o ∧ G' p = none ∧ μ' p = none := by
  refine ⟨s.keep p o h3 h1, s.adp p o h3 h2 h1, ?_⟩
  cases q : μ' p with
  | none => rfl
  | some u =>
    rcases s.new p u q with ⟨o', e⟩ | e
    · rw [h3] at e; cases e
    · rw [h1] at e; cases e
theorem bts_read : ∀ {ifs : List Expr} {σ : St} {ρ : Env'} {G H : Hp} {μ : Mu} {kb : Bool → Mu → Prop} {Q : Bool → Hp → Prop}, dbTs X scope ifs ρ μ kb → SR X.K G σ ρ → MOk X.K G μ H → PostT X.K G μ H kb Q → bTs X scope ifs σ H Q
  | [], σ, ρ, G, H, μ, kb, Q, h, sr, m, po => po true G μ H h (Stp.refl _ _ _) m
  | [c], σ, ρ, G, H, μ, kb, Q, h, sr, m, po => fun s H0 C cl fp => h s H0 C cl fp σ G H sr m PostF.none Q po
  | _ :: _ :: _, _, _, _, _, _, _, _, h, _, _, _ => False.elim h
theorem lc_read {σ : St} {G H : Hp} {Q : VK} (hb : Bd X.K g (own.map (·.2)) bind) (h : dI X E F tg iter ρ μ (LcW X scope (own.map (·.2)) bind ifs elt ρ k)) (sr : SR X.K G σ ρ) (m : MOk X.K G μ H) (pf : PostF X.K G μ H F E) (po : Post X.K G μ H k Q) :
    tLc (wI X tg iter) g (bTs X scope ifs) (bE X scope elt) (own.map (·.2)) σ H Q := by
  refine h σ G H sr m pf _ fun J xs Pm G1 μ1 H1 h1 s1 m1 j1 => ?_
  obtain ⟨Iv, i0, iP, iT, iE⟩ := h1
  intro D hD
  obtain ⟨gD, mD⟩ := m1.free hD
  -- the state between two turns
  refine ⟨fun i n H' => n = xs.length - i ∧ i ≤ xs.length ∧ ∃ acc vs G' μ', Iv i acc μ' ∧ Stp G1 μ1 H1 G' μ' H' ∧ MOk X.K G' μ' H' ∧ H' D = some (.lst vs) ∧ G' D = none ∧ μ' D = none ∧ Reps X.K G' vs acc,
    ⟨_, rfl, Nat.zero_le _, [], [], G1, μ1, i0, Stp.out hD, m1.out hD, upd_same, gD, mD, .nil⟩, ?_⟩
  rintro i n H2 ⟨rfl, hi, acc, vs, G2, μ2, iv2, s2, m2, hD2, gD2, mD2, rs2⟩
  obtain ⟨pm, hacc⟩ := iP i acc μ2 hi iv2
  have sr2 : SR X.K G2 σ ρ := sr.ext (s1.ex.trans s2.ex)
  by_cases hlt : i < xs.length
  · refine .inr ⟨j1.go i _ G2 μ2 m2 s2.ex pm hlt, fun H' => ∃ acc vs G' μ', Iv (i + 1) acc μ' ∧ Stp G1 μ1 H1 G' μ' H' ∧ MOk X.K G' μ' H' ∧ H' D = some (.lst vs) ∧ G' D = none ∧ μ' D = none ∧ Reps X.K G' vs acc,
      fun H' hn => ⟨xs.length - (i + 1), by omega, rfl, hlt, hn⟩, fun v H3 hy => ?_⟩
    obtain ⟨G3, st3, m3, r3⟩ := j1.yld i _ v H3 G2 μ2 xs[i] m2 s2.ex pm (List.getElem?_eq_getElem hlt) hy
    obtain ⟨hD3, gD3, mD3⟩ := st3.stay hD2 gD2 mD2
    obtain ⟨ρ', hbind, hw⟩ := iT i xs[i] acc μ2 (List.getElem?_eq_getElem hlt) iv2
    refine hb G3 H3 v xs[i] _ _ ρ' _ r3 m3.sub ((sr2.ext st3.ex).wipe _) hbind fun σ' sr' hwq => ⟨hwq.trans (wipe_eq (wipe_length _ _) fun j hj => wipe_out hj), ?_⟩
    refine bts_read hw sr' m3 fun b G4 μ4 H4 h4 st4 m4 => ?_
    obtain ⟨hD4, gD4, mD4⟩ := st4.stay hD3 gD3 mD3
    have s4 := (s2.trans st3).trans st4
    cases b with
    | false => exact iteF ⟨acc, vs, G4, μ4, h4.2 rfl, s4, m4, hD4, gD4, mD4, Reps.ext (st3.ex.trans st4.ex) rs2⟩
    | true =>
      refine iteT fun s H0 C cl fp => ?_
      refine h4.1 rfl s H0 C cl fp σ' G4 H4 (sr'.ext st4.ex) m4 PostF.none _ fun u z G5 μ5 H5 h5 st5 m5 r5 => ?_
      obtain ⟨hD5, gD5, mD5⟩ := st5.stay hD4 gD4 mD4
      have rs5 : Reps X.K G5 vs acc := Reps.ext ((st3.ex.trans st4.ex).trans st5.ex) rs2
      exact ⟨vs, hD5, by rw [Reps.len rs5, sizeLine_eq]; omega, acc ++ [z], vs ++ [u], G5, μ5, h5, (s4.trans st5).over hD, m5.other gD5 mD5, upd_same, gD5, mD5, Reps.append rs5 (.cons r5 .nil)⟩
  · have e : (i = xs.length) := by omega
    subst e
    refine .inl ⟨j1.stop _ _ G2 μ2 m2 s2.ex pm (Nat.le_refl _), ?_⟩
    have back := s1.back hD
    have st := s1.trans s2
    rcases iE acc μ2 iv2 with ⟨ds, rfl, hk⟩ | hk
    · exact po (.ref D) (lv ds) _ μ2 H2 hk (st.adopt back gD2) (m2.adopt hD2 gD2 mD2) (show Dp X.K _ _ _ from .lst (SqL.of upd_same) (reps_dpAll (Reps.ext (Ext.new gD2) rs2)))
    · exact po (.ref D) (rv D) G2 _ H2 (hk D mD2) (st.mine back) (m2.mine gD2 ⟨vs, hD2, rs2⟩) rfl
theorem d_lc (hc : X.calm = true) (hN : X.N.Nodup) (ok : BlkOk X.N X.env.scope scope own) (hg : ∀ (s : Shared) (H : Hp) (C : Addr) (cl : List (Str × Addr)) (fp : List Addr), PG (X.blk s H scope (compEnvC scope cl C X.env) fp) tg g) (hb : Bd X.K g (own.map (·.2)) bind)
    (h : dI X E F tg iter ρ μ (LcW X scope (own.map (·.2)) bind ifs elt ρ k)) (hs : ∀ x, foldedSetIterable iter X.env x = pure x := by intro _; rfl) : dE X E F (.ListComp elt [⟨tg, iter, ifs, 0⟩] scope pos) ρ μ k := fun σ G H sr m pf Q po =>
  w_pe (pe_lc hc hN pi_w ok hg (fun s H C cl fp => pts_b ifs) (fun s H C cl fp => ⟨fun pins s1 σ H1 Q I h => h s H C cl fp pins s1 I⟩) hs) (lc_read hb h sr m pf po)
theorem s_setLc (i : Nat) {N : DN} {y : Str} {py spos : Pos} (hc : X.calm = true) (hN : X.N.Nodup) (ok : BlkOk X.N X.env.scope scope own) (hg : ∀ (s : Shared) (H : Hp) (C : Addr) (cl : List (Str × Addr)) (fp : List Addr), PG (X.blk s H scope (compEnvC scope cl C X.env) fp) tg g) (hb : Bd X.K g (own.map (·.2)) bind)
    (hsw : swapsWith (.ListComp elt [⟨tg, iter, ifs, 0⟩] scope pos) (some (.Name y py)) spos.line X.env = pure true)
    (h : dI X E F tg iter ρ μ (LcW X scope (own.map (·.2)) bind ifs elt ρ fun a μ1 => N.nx (ρ.set i (some a)) μ1)) (hy : X.N[i]? = some y := by rfl) (hyl : X.env.scope.names.lookup y = some .local := by rfl) (hs : ∀ x, foldedSetIterable iter X.env x = pure x := by intro _; rfl) :
    dS X E F (.Assign [.Name y py] (.ListComp elt [⟨tg, iter, ifs, 0⟩] scope pos) spos) ρ μ N := fun σ G H sr m pf D po => by
  refine w_ps (ps_setLc (te := bE X scope elt) hc hN hy hyl hsw pi_w ok hg (fun s H C cl fp => pts_b ifs) (fun s H C cl fp => ⟨fun pins s1 σ H1 Q I h => h s H C cl fp pins s1 I⟩) hs) ?_
  exact lc_read hb h sr m pf fun v a G1 μ1 H1 h1 s1 m1 r => po.nx _ _ G1 μ1 H1 h1 s1 m1 ((sr.ext s1.ex).set i r)
end
/-! ### a def by its body -/
def startR (N : List Str) (as : List AV) : Env' := as.map some ++ List.replicate (N.length - as.length) none
theorem start_sr {K : PySem.W.Frag} {G : Hp} {N : List Str} {vs : List V} {as : List AV} (r : Reps K G vs as) : SR K G (L2.start N vs) (startR N as) := by
  have hl := Reps.len r
  refine ⟨by unfold L2.start startR; simp [hl], fun i a h => ?_⟩
  unfold startR at h
  by_cases hi : i < as.length
  · rw [List.getElem?_append_left (by simpa using hi), List.getElem?_map] at h
    cases e : as[i]? with
    | none => (rw [e] at h; cases h)
    | some b =>
      rw [e] at h
      cases h
      obtain ⟨v, h1, h2⟩ := Reps.get r e
      refine ⟨v, ?_, h2⟩
      unfold L2.start
      rw [List.getElem?_append_left (by simp [hl]; exact hi), List.getElem?_map, h1]
      rfl
  · rw [List.getElem?_append_right (by simpa using hi), List.getElem?_replicate] at h
    split at h <;> cases h
section
variable {base : Heap} {P : Program} {w : World} {K : PySem.W.Frag} {mg : Str → Option Value}
/-- where a def's body stands, no error let out -/
abbrev XB (P : Program) (w : World) (K : PySem.W.Frag) (mg : Str → Option Value) (base : Heap) (N : List Str) (qual : Str) (st : Stmt) (f : Addr) (cdv : Value) (A : Around) (outer : List Env) (s : Shared) (H : Hp) (E : XK) : Cx :=
  (cxOf CX0 P w K mg base N qual (C8.fnScope st) f cdv A outer s H E).nox
theorem calD {x : Str} {st : Stmt} {f : Addr} {fd : FuncData} {N ps : List Str} {lvl : Nat} {fs : FS} (D : C8.Def K mg x st f fd) (b : Binds K fd ps []) (S : FnScope N ps (C8.fnScope st)) (len : ∀ as μ k F, fs as μ k F → as.length = ps.length)
    (hbody : ∀ (cdv : Value) (A : Around) (outer : List Env) (s : Shared) (H : Hp) (E : XK), Room lvl (A.deeper (PyProof.Rows.envOfC x (C8.fnScope st) s.heap.objs.size f cdv)) → ∀ as μ k F, fs as μ k F →
      dSs (XB P w K mg base N x st f cdv A outer s H E) E0 F0 (C8.fnBody st) (startR N as) μ { nx := fun _ μ' => k nv μ', rt := k }) : C8.Cal P w K mg base (lvl + 1) x (spF K fs) [] := by
  refine C8.cal0 D b .nil S (fun vs H Q E h => ?_) fun cdv A outer s H vs Q E hr h => ?_
  · obtain ⟨G, μ, as, k, F, r, m, h, _⟩ := h
    rw [Reps.len r]
    exact len as μ k F h
  · obtain ⟨G, μ, as, k, F, r, m, h, po, _⟩ := h
    refine ⟨_, pss_w, ?_⟩
    exact hbody cdv A outer s H E hr as μ k F h (L2.start N vs) G H (start_sr r) m PostF.none _ ⟨fun σ' ρ' G' μ' H' h1 s1 m1 _ => po .non nv G' μ' H' h1 s1 m1 Dp.non, po, fun _ _ _ _ _ h1 => h1.elim, fun _ _ _ _ _ h1 => h1.elim⟩
end
end K87
end

section
set_option Elab.async false
set_option linter.all false
set_option maxRecDepth 100000
set_option maxHeartbeats 1100000
set_option autoImplicit false
namespace K87
open PySem L2
section
variable {X : Cx} {E : XK} {F : KF} {ρ : Env'} {μ : Mu} {k : KV'} {e tg iter elt : Expr} {ifs : List Expr} {pos : Pos} {scope : Scope} {own : List (Str × Nat)} {g : TG} {bind : AV → Env' → Option Env'} {N : DN} {body : List Stmt}
/-- a comprehension that changes nothing and makes data -/
def LcF (X : Cx) (scope : Scope) (vs : List Nat) (bind : AV → Env' → Option Env') (ifs : List Expr) (elt : Expr) (ρ : Env') (k : KV') : List AV → (Mu → Prop) → Mu → Prop := fun xs Pm μ1 =>
  Pm μ1 ∧ ∃ (α : Type) (l : List α) (enc : α → AV) (f : α → Option PyData), xs = l.map enc ∧ l.length < 1000000 ∧
    (∀ a ∈ l, ∃ ρ', bind (enc a) (wipeR ρ vs) = some ρ' ∧ dbTs X scope ifs ρ' μ1 fun b μ2 => μ2 = μ1 ∧ (b = false → f a = none) ∧ (b = true → dbE X scope elt ρ' μ1 fun z μ3 => μ3 = μ1 ∧ ∃ w, f a = some w ∧ z = .d w)) ∧ k (lv (l.filterMap f)) μ1
theorem dbTs_mono : ∀ {ifs : List Expr} {ρ : Env'} {μ : Mu} {k k' : Bool → Mu → Prop}, dbTs X scope ifs ρ μ k → (∀ b μ', k b μ' → k' b μ') → dbTs X scope ifs ρ μ k'
  | [], _, _, _, _, h, hk => hk _ _ h
  | [c], _, _, _, _, h, hk => fun s H0 C cl fp => (h s H0 C cl fp).mono hk
  | _ :: _ :: _, _, _, _, _, h, _ => h.elim
theorem lcF_lcW {vs : List Nat} {xs : List AV} {Pm : Mu → Prop} {μ1 : Mu} (h : LcF X scope vs bind ifs elt ρ k xs Pm μ1) : LcW X scope vs bind ifs elt ρ k xs Pm μ1 := by
  obtain ⟨pm, α, l, enc, f, rfl, hl, ht, q⟩ := h
  refine ⟨fun i acc μ' => μ' = μ1 ∧ acc = ((l.take i).filterMap f).map .d, ⟨rfl, rfl⟩, fun i acc μ' hi hv => ?_, fun i y acc μ' hy hv => ?_, fun acc μ' hv => ?_⟩
  · obtain ⟨rfl, rfl⟩ := hv
    refine ⟨pm, ?_⟩
    have := List.length_filterMap_le f (l.take i)
    rw [List.length_map]
    rw [List.length_take] at this
    omega
  · obtain ⟨rfl, rfl⟩ := hv
    rw [List.getElem?_map] at hy
    cases ha : l[i]? with
    | none => rw [ha] at hy; cases hy
    | some a =>
      rw [ha] at hy
      cases hy
      obtain ⟨ρ', hb, hd⟩ := ht a (List.mem_of_getElem? ha)
      refine ⟨ρ', hb, dbTs_mono hd fun b μ2 hm => ?_⟩
      obtain ⟨rfl, h0, h1⟩ := hm
      have hi : i < l.length := (List.getElem?_eq_some_iff.mp ha).1
      have e : l.take (i + 1) = l.take i ++ [a] := by
        rw [List.take_add_one, ha]; rfl
      refine ⟨fun hb => ?_, fun hb => ?_⟩
      · intro s H0 C cl fp
        refine (h1 hb s H0 C cl fp).mono fun z μ3 hz => ?_
        obtain ⟨rfl, w, hw, rfl⟩ := hz
        refine ⟨rfl, ?_⟩
        rw [e, List.filterMap_append]
        simp [hw]
      · refine ⟨rfl, ?_⟩
        rw [e, List.filterMap_append]
        simp [h0 hb]
  · obtain ⟨rfl, rfl⟩ := hv
    left
    (rw [List.length_map, List.take_length]); exact ⟨_, rfl, q⟩
/-- for, by what is done and what is left -/
def ForW (X : Cx) (E : XK) (F : KF) (tg : Expr) (body : List Stmt) (ρ : Env') (N : DN) : List AV → (Mu → Prop) → Mu → Prop := fun xs Pm μ1 =>
  ∃ (α : Type) (l : List α) (enc : α → AV) (Iv : List α → Env' → Mu → Prop), xs = l.map enc ∧ Iv [] ρ μ1 ∧ (∀ d r ρ' μ', l = d ++ r → Iv d ρ' μ' → Pm μ') ∧
    (∀ d a r ρ' μ', l = d ++ a :: r → Iv d ρ' μ' → dG X E F tg (enc a) ρ' μ' fun ρ2 μ2 => dSs X E F body ρ2 μ2 { nx := Iv (d ++ [a]), rt := N.rt, bk := N.nx, ct := Iv (d ++ [a]) }) ∧ ∀ ρ' μ', Iv l ρ' μ' → N.nx ρ' μ'
theorem dI.mono {kI kI' : List AV → (Mu → Prop) → Mu → Prop} (h : dI X E F tg iter ρ μ kI) (hk : ∀ xs Pm μ', kI xs Pm μ' → kI' xs Pm μ') : dI X E F tg iter ρ μ kI' := fun σ G H sr m pf R po => h σ G H sr m pf R fun J xs Pm G' μ' H' h1 => po J xs Pm G' μ' H' (hk _ _ _ h1)
theorem s_forL (hp : PassesOwn (model X.prog X.w) X.A X.env X.xe) (hc : X.calm = true) (h : dI X E F tg iter ρ μ (ForW X E F tg body ρ N))
    (hs : ∀ x, foldedSetIterable iter X.env x = pure x := by intro _; rfl) : dS X E F (.For tg iter body [] pos) ρ μ N :=
  s_for hp hc (h.mono fun xs Pm μ1 hf => by
    obtain ⟨α, l, enc, Iv, rfl, i0, iP, iT, iE⟩ := hf
    refine ⟨fun i => Iv (l.take i), i0, fun i ρ' μ' hi hv => iP (l.take i) (l.drop i) ρ' μ' (List.take_append_drop i l).symm hv, fun i y ρ' μ' hy hv => ?_, fun ρ' μ' hv => ?_⟩
    · rw [List.getElem?_map] at hy
      cases ha : l[i]? with
      | none => rw [ha] at hy; cases hy
      | some a =>
        rw [ha] at hy
        cases hy
        have hi : i < l.length := (List.getElem?_eq_some_iff.mp ha).1
        have e : l.take (i + 1) = l.take i ++ [a] := by
          rw [List.take_add_one, ha]; rfl
        have e2 : l = l.take i ++ a :: l.drop (i + 1) := by
          have : l.drop i = a :: l.drop (i + 1) := by
            rw [List.drop_eq_getElem_cons hi]
            rw [List.getElem?_eq_getElem hi] at ha
            cases ha
            rfl
          rw [← this, List.take_append_drop]
        show dG X E F tg (enc a) ρ' μ' fun ρ2 μ2 => dSs X E F body ρ2 μ2 { nx := Iv (l.take (i + 1)), rt := N.rt, bk := N.nx, ct := Iv (l.take (i + 1)) }
        rw [e]
        exact iT (l.take i) a (l.drop (i + 1)) ρ' μ' e2 hv
    · rw [List.length_map, List.take_length] at hv
      exact iE ρ' μ' hv) hs
/-- targets of a block -/
theorem bg1 {x : Str} {p : Pos} (i : Nat) (hN : X.N.Nodup) (hi : X.N[i]? = some x) (hx : scope.names.lookup x = some .local) (s : Shared) (H : Hp) (C : Addr) (cl : List (Str × Addr)) (fp : List Addr) : PG (X.blk s H scope (compEnvC scope cl C X.env) fp) (.Name x p) (gName i) :=
  pg_name hN hi (.inl (lookup_relabel_local hx)) (.inr (lookup_relabel_local hx))
theorem bg2 {x y : Str} {p p2 p3 : Pos} {n : Nat} (i j : Nat) (hc : X.calm = true) (hN : X.N.Nodup) (hi : X.N[i]? = some x) (hj : X.N[j]? = some y) (hx : scope.names.lookup x = some .local) (hy : scope.names.lookup y = some .local) (s : Shared) (H : Hp) (C : Addr) (cl : List (Str × Addr)) (fp : List Addr) :
    PG (X.blk s H scope (compEnvC scope cl C X.env) fp) (.Tuple [.Name x p, .Name y p2] n p3) (gTup X.K 2 (gCons (gName i) (gCons (gName j) gNil))) :=
  pg_tup hc (pgs_cons (pg_name hN hi (.inl (lookup_relabel_local hx)) (.inr (lookup_relabel_local hx))) (pgs_cons (pg_name hN hj (.inl (lookup_relabel_local hy)) (.inr (lookup_relabel_local hy))) pgs_nil rfl) rfl) rfl rfl
theorem d_lc1 {x : Str} {p : Pos} (i : Nat) (own : List (Str × Nat)) (hc : X.calm = true) (hN : X.N.Nodup) (ok : BlkOk X.N X.env.scope scope own) (h : dI X E F (.Name x p) iter ρ μ (LcW X scope (own.map (·.2)) (fun a ρ => some (ρ.set i (some a))) ifs elt ρ k))
    (ho : own.map (·.2) = [i] := by rfl) (hi : X.N[i]? = some x := by rfl) (hx : scope.names.lookup x = some .local := by rfl) (hs : ∀ x, foldedSetIterable iter X.env x = pure x := by intro _; rfl) :
    dE X E F (.ListComp elt [⟨.Name x p, iter, ifs, 0⟩] scope pos) ρ μ k := d_lc hc hN ok (bg1 i hN hi hx) (by rw [ho]; exact bd_name i) h hs
theorem d_lc2 {x y : Str} {p p2 p3 : Pos} {n : Nat} (i j : Nat) (own : List (Str × Nat)) (hc : X.calm = true) (hN : X.N.Nodup) (ok : BlkOk X.N X.env.scope scope own) (h : dI X E F (.Tuple [.Name x p, .Name y p2] n p3) iter ρ μ (LcW X scope (own.map (·.2)) (bind2 i j) ifs elt ρ k))
    (ho : own.map (·.2) = [i, j] := by rfl) (hi : X.N[i]? = some x := by rfl) (hj : X.N[j]? = some y := by rfl) (hx : scope.names.lookup x = some .local := by rfl) (hy : scope.names.lookup y = some .local := by rfl) (hs : ∀ x, foldedSetIterable iter X.env x = pure x := by intro _; rfl) :
    dE X E F (.ListComp elt [⟨.Tuple [.Name x p, .Name y p2] n p3, iter, ifs, 0⟩] scope pos) ρ μ k := d_lc hc hN ok (bg2 i j hc hN hi hj hx hy) (by rw [ho]; exact bd_two i j) h hs
end
end K87
end

section
set_option autoImplicit false
namespace K87M
/-! # Plain mathematics: heaps (lists of ints that never rise), their runs, steps, effects -/

/-! ### runs -/
def runs : List Int → List (Int × Nat)
  | [] => []
  | x :: h => match runs h with
    | [] => [(x, 1)]
    | (y, c) :: r => if x = y then (x, c + 1) :: r else (x, 1) :: (y, c) :: r
def flat (rs : List (Int × Nat)) : List Int := rs.flatMap fun r => List.replicate r.2 r.1
/-- counts from 1, neighbours differ -/
def Canon : List (Int × Nat) → Prop
  | [] => True
  | [r] => 1 ≤ r.2
  | r :: s :: t => 1 ≤ r.2 ∧ r.1 ≠ s.1 ∧ Canon (s :: t)
theorem flat_nil : flat [] = [] := rfl
theorem flat_cons (r : Int × Nat) (rs : List (Int × Nat)) : flat (r :: rs) = List.replicate r.2 r.1 ++ flat rs := by
  simp [flat]
theorem flat_append (a b : List (Int × Nat)) : flat (a ++ b) = flat a ++ flat b := by
  simp [flat]
theorem runs_nil : runs [] = [] := rfl
theorem runs_cons (x : Int) (h : List Int) : runs (x :: h) = match runs h with
    | [] => [(x, 1)]
    | (y, c) :: r => if x = y then (x, c + 1) :: r else (x, 1) :: (y, c) :: r := rfl
theorem runs_eq_nil {h : List Int} (e : runs h = []) : h = [] := by
  cases h with
  | nil => rfl
  | cons x h =>
    unfold runs at e
    split at e
    · cases e
    · split at e <;> cases e
theorem flat_runs : ∀ h : List Int, flat (runs h) = h
  | [] => rfl
  | x :: h => by
    have ih := flat_runs h
    unfold runs
    split
    · rename_i e
      rw [e] at ih
      have : h = [] := ih.symm
      subst this; rfl
    · rename_i y c r e
      rw [e, flat_cons] at ih
      split
      · rename_i q
        subst q
        rw [flat_cons, List.replicate_succ, List.cons_append]
        exact congrArg (x :: ·) ih
      · rw [flat_cons, flat_cons]
        show [x] ++ _ = _
        exact congrArg (x :: ·) ih
theorem canon_cons {r : Int × Nat} {rs : List (Int × Nat)} (h : Canon (r :: rs)) : Canon rs := by
  cases rs with
  | nil => trivial
  | cons s t => exact h.2.2
theorem canon_head {r : Int × Nat} {rs : List (Int × Nat)} (h : Canon (r :: rs)) : 1 ≤ r.2 := by
  cases rs with
  | nil => exact h
  | cons s t => exact h.1
theorem canon_runs : ∀ h : List Int, Canon (runs h)
  | [] => trivial
  | x :: h => by
    have ih := canon_runs h
    unfold runs
    split
    · exact Nat.le_refl 1
    · rename_i y c r e
      rw [e] at ih
      split
      · rename_i q
        subst q
        cases r with
        | nil => exact Nat.le_add_left 1 c
        | cons s t => exact ⟨Nat.le_add_left 1 c, ih.2.1, ih.2.2⟩
      · rename_i q
        exact ⟨Nat.le_refl 1, q, ih⟩
theorem runs_rep (x : Int) (c : Nat) (h : List Int) (hx : ∀ y, h.head? = some y → y ≠ x) : runs (List.replicate (c + 1) x ++ h) = (x, c + 1) :: runs h := by
  induction c with
  | zero =>
    show runs (x :: h) = _
    rw [runs_cons]
    split
    · rename_i e
      rw [e]
    · rename_i y d r e
      have hy : h.head? = some y := by
        have := flat_runs h
        have hc := canon_runs h
        rw [e] at this hc
        have h1 := canon_head hc
        rw [flat_cons] at this
        obtain ⟨n, rfl⟩ : ∃ n, d = n + 1 := ⟨d - 1, by simp at h1; omega⟩
        rw [← this]; simp [List.replicate_succ]
      rw [if_neg (fun z => hx y hy z.symm), e]
  | succ c ih =>
    rw [List.replicate_succ, List.cons_append]
    show runs (x :: (List.replicate (c + 1) x ++ h)) = _
    rw [runs_cons, ih]
    simp
theorem runs_flat : ∀ {rs : List (Int × Nat)}, Canon rs → runs (flat rs) = rs
  | [], _ => rfl
  | r :: rs, h => by
    obtain ⟨x, c⟩ := r
    have h1 := canon_head h
    obtain ⟨n, rfl⟩ : ∃ n, c = n + 1 := ⟨c - 1, by simp at h1; omega⟩
    rw [flat_cons]
    show runs (List.replicate (n + 1) x ++ flat rs) = _
    have ih := runs_flat (canon_cons h)
    rw [runs_rep x n (flat rs) ?_, ih]
    intro y hy
    cases rs with
    | nil => cases hy
    | cons s t =>
      obtain ⟨z, d⟩ := s
      have h2 := canon_head h.2.2
      obtain ⟨m, rfl⟩ : ∃ m, d = m + 1 := ⟨d - 1, by simp at h2; omega⟩
      rw [flat_cons] at hy
      simp [List.replicate_succ] at hy
      rw [← hy]
      exact fun e => h.2.1 e.symm
theorem runs_of {rs : List (Int × Nat)} {h : List Int} (c : Canon rs) (f : flat rs = h) : runs h = rs := by
  rw [← f]; exact runs_flat c
theorem canon_append {a b : List (Int × Nat)} (ha : Canon a) (hb : Canon b) (hj : ∀ x y, a.getLast? = some x → b.head? = some y → x.1 ≠ y.1) : Canon (a ++ b) := by
  induction a with
  | nil => exact hb
  | cons r a ih =>
    cases a with
    | nil =>
      cases b with
      | nil => exact ha
      | cons s t => exact ⟨ha, hj r s rfl rfl, hb⟩
    | cons q a =>
      refine ⟨ha.1, ha.2.1, ih ha.2.2 fun x y hx hy => hj x y ?_ hy⟩
      rw [List.getLast?_cons_cons]; exact hx
theorem canon_left {a b : List (Int × Nat)} (h : Canon (a ++ b)) : Canon a := by
  induction a with
  | nil => trivial
  | cons r a ih =>
    cases a with
    | nil =>
      cases b with
      | nil => exact h
      | cons s t => exact h.1
    | cons q a => exact ⟨h.1, h.2.1, ih h.2.2⟩
theorem canon_set {a : List (Int × Nat)} {x : Int} {c d : Nat} (h : Canon (a ++ [(x, c)])) (hd : 1 ≤ d) : Canon (a ++ [(x, d)]) := by
  induction a with
  | nil => exact hd
  | cons r a ih =>
    cases a with
    | nil => exact ⟨h.1, h.2.1, hd⟩
    | cons q a => exact ⟨h.1, h.2.1, ih h.2.2⟩
/-- one on top of the other -/
theorem runs_same (a b : List (Int × Nat)) (x : Int) (c d : Nat) (ha : Canon (a ++ [(x, c)])) (hb : Canon ((x, d) :: b)) : runs (flat (a ++ [(x, c)]) ++ flat ((x, d) :: b)) = a ++ (x, c + d) :: b := by
  refine runs_of ?_ ?_
  · have h1 : Canon (a ++ [(x, c + d)]) := canon_set ha (by have := canon_head hb; simp at this; omega)
    have h2 : a ++ (x, c + d) :: b = (a ++ [(x, c + d)]) ++ b := by simp
    rw [h2]
    refine canon_append h1 (canon_cons hb) fun u v hu hv => ?_
    simp at hu
    subst hu
    cases b with
    | nil => cases hv
    | cons s t =>
      cases hv
      exact hb.2.1
  · simp only [flat_append, flat_cons, flat_nil, List.append_nil, List.append_assoc]
    rw [← List.append_assoc (List.replicate c x), List.replicate_append_replicate]
theorem runs_apart (s t : List (Int × Nat)) (hs : Canon s) (ht : Canon t) (hj : ∀ x y, s.getLast? = some x → t.head? = some y → x.1 ≠ y.1) : runs (flat s ++ flat t) = s ++ t := by
  rw [← flat_append]
  exact runs_flat (canon_append hs ht hj)
theorem sum_runs (h : List Int) : ((runs h).map (·.2)).sum = h.length := by
  have key : ∀ rs : List (Int × Nat), (rs.map (·.2)).sum = (flat rs).length := by
    intro rs
    induction rs with
    | nil => rfl
    | cons r rs ih => rw [flat_cons, List.map_cons, List.sum_cons, ih, List.length_append, List.length_replicate]
  rw [key, flat_runs]
def cntB (h : List Int) (x : Int) : Nat := (h.filter fun y => decide (y < x)).length
theorem sum_below (h : List Int) (x : Int) : (((runs h).filter fun r => decide (r.1 < x)).map (·.2)).sum = cntB h x := by
  have key : ∀ rs : List (Int × Nat), ((rs.filter fun r => decide (r.1 < x)).map (·.2)).sum = cntB (flat rs) x := by
    intro rs
    induction rs with
    | nil => rfl
    | cons r rs ih =>
      unfold cntB at ih ⊢
      rw [flat_cons, List.filter_append, List.length_append, List.filter_cons]
      by_cases q : r.1 < x
      · rw [if_pos (by simpa using q), List.map_cons, List.sum_cons, ih, List.filter_replicate, if_pos (by simpa using q), List.length_replicate]
      · rw [if_neg (by simpa using q), ih, List.filter_replicate, if_neg (by simpa using q)]
        simp
  rw [key, flat_runs]
/-! ### heaps that never rise -/
def Dec (h : List Int) : Prop := h.Pairwise (· ≥ ·)
theorem dec_runs {h : List Int} (d : Dec h) : (runs h).Pairwise fun r s => r.1 > s.1 := by
  have key : ∀ rs : List (Int × Nat), Canon rs → Dec (flat rs) → rs.Pairwise fun r s => r.1 > s.1 := by
    intro rs
    induction rs with
    | nil => intro _ _; exact .nil
    | cons r rs ih =>
      intro c d
      have h1 := canon_head c
      rw [flat_cons] at d
      unfold Dec at d
      rw [List.pairwise_append] at d
      obtain ⟨_, d2, d3⟩ := d
      have ih' := ih (canon_cons c) d2
      refine List.pairwise_cons.mpr ⟨fun s hs => ?_, ih'⟩
      have ge : ∀ s ∈ rs, r.1 ≥ s.1 := fun s hs => by
        have hc : 1 ≤ s.2 := by
          have : ∀ l : List (Int × Nat), Canon l → ∀ s ∈ l, 1 ≤ s.2 := by
            intro l
            induction l with
            | nil => intro _ s hs; cases hs
            | cons a l ihl =>
              intro ca s hs
              rcases List.mem_cons.mp hs with e | hs
              · subst e; exact canon_head ca
              · exact ihl (canon_cons ca) s hs
          exact this rs (canon_cons c) s hs
        refine d3 r.1 (List.mem_replicate.mpr ⟨by omega, rfl⟩) s.1 ?_
        exact List.mem_flatMap.mpr ⟨s, hs, List.mem_replicate.mpr ⟨by omega, rfl⟩⟩
      cases rs with
      | nil => cases hs
      | cons q t =>
        have hq : r.1 > q.1 := by
          have a := ge q (List.mem_cons_self ..)
          have b := c.2.1
          omega
        rcases List.mem_cons.mp hs with e | hs
        · subst e; exact hq
        · have := (List.pairwise_cons.mp ih').1 s hs
          omega
  exact key _ (canon_runs h) (by rw [flat_runs]; exact d)
theorem run_pos {h : List Int} : ∀ r ∈ runs h, 1 ≤ r.2 := by
  have : ∀ l : List (Int × Nat), Canon l → ∀ s ∈ l, 1 ≤ s.2 := by
    intro l
    induction l with
    | nil => intro _ s hs; cases hs
    | cons a l ihl =>
      intro ca s hs
      rcases List.mem_cons.mp hs with e | hs
      · subst e; exact canon_head ca
      · exact ihl (canon_cons ca) s hs
  exact this _ (canon_runs h)
theorem runs_len (h : List Int) : (runs h).length ≤ h.length := by
  have key : ∀ rs : List (Int × Nat), (∀ r ∈ rs, 1 ≤ r.2) → rs.length ≤ (flat rs).length := by
    intro rs
    induction rs with
    | nil => intro _; exact Nat.zero_le _
    | cons r rs ih =>
      intro c
      have h1 := c r (List.mem_cons_self ..)
      have h2 := ih fun s hs => c s (List.mem_cons_of_mem _ hs)
      rw [flat_cons, List.length_append, List.length_replicate, List.length_cons]
      omega
  have := key (runs h) run_pos
  rw [flat_runs] at this
  exact this
/-- the last run taken off -/
theorem runs_pop {h : List Int} {a : List (Int × Nat)} {x : Int} {m : Nat} (e : runs h = a ++ [(x, m)]) : h = flat a ++ List.replicate m x ∧ Canon a ∧ 1 ≤ m ∧ m ≤ h.length ∧ runs (h.take (h.length - m)) = a ∧
    ∀ c, c < m → runs (h.take (h.length - c)) = a ++ [(x, m - c)] := by
  have f := flat_runs h
  have cn := canon_runs h
  have rp := run_pos (h := h)
  rw [e] at f cn rp
  rw [flat_append] at f
  have f' : h = flat a ++ List.replicate m x := by rw [← f]; simp [flat]
  have hm : 1 ≤ m := rp (x, m) (by simp)
  have hl : h.length = (flat a).length + m := by rw [f', List.length_append, List.length_replicate]
  refine ⟨f', canon_left cn, hm, by omega, ?_, fun c hc => ?_⟩
  · refine runs_of (canon_left cn) ?_
    have : h.length - m = (flat a).length := by omega
    rw [this, f', List.take_left]
  · refine runs_of (canon_set cn (by omega)) ?_
    have : h.length - c = (flat a).length + (m - c) := by omega
    rw [this, flat_append, flat_cons, flat_nil, List.append_nil, f', List.take_append, List.take_of_length_le (by omega)]
    congr 1
    rw [List.take_replicate]
    congr 1
    omega
end K87M
end

section
set_option autoImplicit false
namespace K87M
/-! ### maximal pairs -/
abbrev Pr := Int × Nat
/-- q is at least p in both -/
def dom (q p : Pr) : Prop := p.1 ≤ q.1 ∧ p.2 ≤ q.2
def Mx (l : List Pr) (p : Pr) : Prop := p ∈ l ∧ ∀ q ∈ l, dom q p → q = p
/-- from above: kept if the second number is greater than that of the last one kept -/
def scan : Option Nat → List Pr → List Pr
  | _, [] => []
  | none, p :: r => p :: scan (some p.2) r
  | some b, p :: r => if b < p.2 then p :: scan (some p.2) r else scan (some b) r
def lexLe (p q : Pr) : Bool := decide (p.1 < q.1 ∨ (p.1 = q.1 ∧ p.2 ≤ q.2))
theorem lexLe_iff {p q : Pr} : lexLe p q = true ↔ (p.1 < q.1 ∨ (p.1 = q.1 ∧ p.2 ≤ q.2)) := by unfold lexLe; simp
/-- falling, in lexicographic order -/
def Fall (l : List Pr) : Prop := l.Pairwise fun p q => lexLe q p = true
theorem scan_mem : ∀ {l : List Pr} {o : Option Nat} {p : Pr}, p ∈ scan o l → p ∈ l ∧ ∀ b, o = some b → b < p.2
  | [], o, p, h => by cases o <;> cases h
  | q :: r, none, p, h => by
    (unfold scan at h); rcases List.mem_cons.mp h with e | h
    · subst e; exact ⟨List.mem_cons_self .., fun b e => nomatch e⟩
    · exact ⟨List.mem_cons_of_mem _ (scan_mem h).1, fun b e => nomatch e⟩
  | q :: r, some b, p, h => by
    unfold scan at h
    split at h
    · rename_i hb
      rcases (List.mem_cons.mp h) with e | h
      · subst e; exact ⟨List.mem_cons_self .., fun b' e => by cases e; exact hb⟩
      · have := scan_mem h
        exact ⟨List.mem_cons_of_mem _ this.1, fun b' e => by cases e; exact Nat.lt_trans hb (this.2 _ rfl)⟩
    · have := scan_mem h
      exact ⟨List.mem_cons_of_mem _ this.1, this.2⟩
/-- strictly: the first falls, the second rises -/
theorem scan_strict : ∀ {l : List Pr} {o : Option Nat}, Fall l → (scan o l).Pairwise fun p q => q.1 < p.1 ∧ p.2 < q.2
  | [], o, _ => by cases o <;> exact .nil
  | q :: r, o, h => by
    (obtain ⟨h1, h2⟩ := List.pairwise_cons.mp h); have key : (q :: scan (some q.2) r).Pairwise fun p q => q.1 < p.1 ∧ p.2 < q.2 := by
      refine List.pairwise_cons.mpr ⟨fun p hp => ?_, scan_strict h2⟩
      obtain ⟨m, hb⟩ := scan_mem hp
      have lt := hb _ rfl
      have := lexLe_iff.mp (h1 p m)
      refine ⟨?_, lt⟩
      rcases this with h | ⟨_, h⟩
      · exact h
      · omega
    cases o with
    | none => exact key
    | some b =>
      unfold scan
      split
      · exact key
      · exact scan_strict h2
/-- everything is dominated by something kept, or not above the bound -/
theorem scan_dom : ∀ {l : List Pr} {o : Option Nat} {p : Pr}, Fall l → p ∈ l → (∃ q ∈ scan o l, dom q p) ∨ ∃ b, o = some b ∧ p.2 ≤ b
  | q :: r, o, p, h, hp => by
    (obtain ⟨h1, h2⟩ := List.pairwise_cons.mp h); have top : ∀ p ∈ q :: r, p.1 ≤ q.1 := fun p hp => by
      rcases (List.mem_cons.mp hp) with e | hp
      · subst e; exact Int.le_refl _
      · rcases lexLe_iff.mp (h1 p hp) with h | ⟨h, _⟩ <;> omega
    have kept : (∃ s ∈ q :: scan (some q.2) r, dom s p) := by
      rcases (List.mem_cons.mp hp) with e | hp'
      · subst e; exact ⟨p, List.mem_cons_self .., Int.le_refl _, Nat.le_refl _⟩
      · rcases scan_dom (o := some q.2) h2 hp' with ⟨s, hs, hd⟩ | ⟨b, e, hb⟩
        · exact ⟨s, List.mem_cons_of_mem _ hs, hd⟩
        · cases e
          exact ⟨q, List.mem_cons_self .., top p hp, hb⟩
    cases o with
    | none => exact .inl kept
    | some b =>
      unfold scan
      split
      · exact .inl kept
      · rename_i hb
        rcases (List.mem_cons.mp hp) with e | hp'
        · subst e; exact .inr ⟨b, rfl, Nat.le_of_not_lt hb⟩
        · exact scan_dom h2 hp'
theorem scan_mx {l : List Pr} (h : Fall l) (p : Pr) : p ∈ scan none l ↔ Mx l p := by
  constructor
  · intro hp
    refine ⟨(scan_mem hp).1, fun q hq hd => ?_⟩
    rcases scan_dom (o := none) h hq with ⟨s, hs, hd2⟩ | ⟨b, e, _⟩
    · have sp : s = p := by
        by_cases e : s = p
        · exact e
        · have key : ∀ l : List Pr, (l.Pairwise fun p q => q.1 < p.1 ∧ p.2 < q.2) → ∀ s ∈ l, ∀ p ∈ l, s ≠ p → ¬ dom s p := by
            intro l
            induction l with
            | nil => intro _ s hs; cases hs
            | cons a l ih =>
              intro hl s hs p hp ne hd
              obtain ⟨g1, g2⟩ := List.pairwise_cons.mp hl
              rcases List.mem_cons.mp hs with e1 | hs'
              · rcases List.mem_cons.mp hp with e2 | hp'
                · exact ne (e1.trans e2.symm)
                · subst e1
                  have := g1 p hp'
                  have := hd.2
                  omega
              · rcases List.mem_cons.mp hp with e2 | hp'
                · subst e2
                  have := g1 s hs'
                  have := hd.1
                  omega
                · exact ih g2 s hs' p hp' ne hd
          exact absurd ⟨Int.le_trans hd.1 hd2.1, Nat.le_trans hd.2 hd2.2⟩ (key _ (scan_strict h) s hs p hp e)
      subst sp
      have e1 : q.1 = s.1 := Int.le_antisymm hd2.1 hd.1
      have e2 : q.2 = s.2 := Nat.le_antisymm hd2.2 hd.2
      exact Prod.ext e1 e2
    · cases e
  · rintro ⟨hp, hm⟩
    rcases scan_dom (o := none) h hp with ⟨s, hs, hd⟩ | ⟨b, e, _⟩
    · have := hm s (scan_mem hs).1 hd
      rw [← this]; exact hs
    · cases e
theorem strict_eq : ∀ {a b : List Pr}, (a.Pairwise fun p q => q.1 < p.1) → (b.Pairwise fun p q => q.1 < p.1) → (∀ p, p ∈ a ↔ p ∈ b) → a = b
  | [], [], _, _, _ => rfl
  | [], q :: b, _, _, h => absurd ((h q).mpr (List.mem_cons_self ..)) (by simp)
  | p :: a, [], _, _, h => absurd ((h p).mp (List.mem_cons_self ..)) (by simp)
  | p :: a, q :: b, ha, hb, h => by
    obtain ⟨a1, a2⟩ := List.pairwise_cons.mp ha
    obtain ⟨b1, b2⟩ := List.pairwise_cons.mp hb
    have e : p = q := by
      rcases List.mem_cons.mp ((h p).mp (List.mem_cons_self ..)) with e | hp
      · exact e
      · rcases List.mem_cons.mp ((h q).mpr (List.mem_cons_self ..)) with e | hq
        · exact e.symm
        · have := b1 p hp
          have := a1 q hq
          omega
    subst e
    have t : a = b := strict_eq a2 b2 fun r => by
      constructor
      · intro hr
        rcases List.mem_cons.mp ((h r).mp (List.mem_cons_of_mem _ hr)) with e | h'
        · have := a1 r hr
          rw [e] at this
          omega
        · exact h'
      · intro hr
        rcases List.mem_cons.mp ((h r).mpr (List.mem_cons_of_mem _ hr)) with e | h'
        · have := b1 r hr
          rw [e] at this
          omega
        · exact h'
    rw [t]
/-! ### U -/
def srt (l : List Pr) : List Pr := l.mergeSort lexLe
theorem lex_trans : ∀ a b c : Pr, lexLe a b = true → lexLe b c = true → lexLe a c = true := fun a b c h1 h2 => by
  have h1 := lexLe_iff.mp h1
  have h2 := lexLe_iff.mp h2
  exact lexLe_iff.mpr (by omega)
theorem lex_total : ∀ a b : Pr, (lexLe a b || lexLe b a) = true := fun a b => by
  unfold lexLe
  (rw [Bool.or_eq_true, decide_eq_true_eq, decide_eq_true_eq]); omega
theorem srt_perm (l : List Pr) : (srt l).Perm l := List.mergeSort_perm l lexLe
theorem srt_sorted (l : List Pr) : (srt l).Pairwise fun p q => lexLe p q = true := List.pairwise_mergeSort lex_trans lex_total l
theorem srt_fall (l : List Pr) : Fall (srt l).reverse := by
  unfold Fall
  rw [List.pairwise_reverse]
  exact srt_sorted l
/-- any sorted arrangement is this one -/
theorem srt_uniq {l m : List Pr} (h1 : m.Perm l) (h2 : m.Pairwise fun p q => lexLe p q = true) : m = srt l := by
  refine List.Perm.eq_of_pairwise (le := fun p q => lexLe p q = true) (fun a b _ _ hab hba => ?_) h2 (srt_sorted l) (h1.trans (srt_perm l).symm)
  have hab := lexLe_iff.mp hab
  have hba := lexLe_iff.mp hba
  exact Prod.ext (by omega) (by omega)
/-- the pairs that no other one dominates, from below -/
def U (l : List Pr) : List Pr := (scan none (srt l).reverse).reverse
theorem mem_U {l : List Pr} {p : Pr} : p ∈ U l ↔ Mx l p := by
  unfold U
  rw [List.mem_reverse, scan_mx (srt_fall l)]
  unfold Mx
  have e : ∀ q, q ∈ (srt l).reverse ↔ q ∈ l := fun q => by rw [List.mem_reverse]; exact (srt_perm l).mem_iff
  simp only [e]
theorem U_strict (l : List Pr) : (U l).Pairwise fun p q => p.1 < q.1 ∧ q.2 < p.2 := by
  unfold U
  rw [List.pairwise_reverse]
  exact scan_strict (srt_fall l)
theorem U_dom {l : List Pr} {p : Pr} (h : p ∈ l) : ∃ q ∈ U l, dom q p := by
  have hp : p ∈ (srt l).reverse := by rw [List.mem_reverse]; exact (srt_perm l).mem_iff.mpr h
  rcases scan_dom (o := none) (srt_fall l) hp with ⟨q, hq, hd⟩ | ⟨b, e, _⟩
  · exact ⟨q, by unfold U; rw [List.mem_reverse]; exact hq, hd⟩
  · cases e
theorem strict_eq' {a b : List Pr} (ha : a.Pairwise fun p q => p.1 < q.1) (hb : b.Pairwise fun p q => p.1 < q.1) (h : ∀ p, p ∈ a ↔ p ∈ b) : a = b := by
  have := strict_eq (a := a.reverse) (b := b.reverse) (by rw [List.pairwise_reverse]; exact ha) (by rw [List.pairwise_reverse]; exact hb) (fun p => by rw [List.mem_reverse, List.mem_reverse]; exact h p)
  have := congrArg List.reverse this
  simpa using this
theorem U_uniq {l m : List Pr} (hm : m.Pairwise fun p q => p.1 < q.1) (h : ∀ p, p ∈ m ↔ Mx l p) : U l = m :=
  strict_eq' ((U_strict l).imp fun h => h.1) hm fun p => by rw [mem_U, h]
theorem U_congr {l m : List Pr} (h : ∀ p, Mx l p ↔ Mx m p) : U l = U m := U_uniq ((U_strict m).imp fun h => h.1) fun p => by rw [mem_U, h]
/-- pruning first changes nothing -/
theorem U_app (l m : List Pr) : U (U l ++ m) = U (l ++ m) := by
  refine U_congr fun p => ?_
  constructor
  · rintro ⟨hp, hx⟩
    refine ⟨?_, fun q hq hd => ?_⟩
    · rcases (List.mem_append.mp hp) with h | h
      · exact List.mem_append_left _ (mem_U.mp h).1
      · exact List.mem_append_right _ h
    · rcases List.mem_append.mp hq with h | h
      · obtain ⟨r, hr, hd2⟩ := U_dom h
        have e := hx r (List.mem_append_left _ hr) ⟨Int.le_trans hd.1 hd2.1, Nat.le_trans hd.2 hd2.2⟩
        subst e
        exact Prod.ext (Int.le_antisymm hd2.1 hd.1) (Nat.le_antisymm hd2.2 hd.2)
      · exact hx q (List.mem_append_right _ h) hd
  · rintro ⟨hp, hx⟩
    refine ⟨?_, fun q hq hd => ?_⟩
    · rcases (List.mem_append.mp hp) with h | h
      · exact List.mem_append_left _ (mem_U.mpr ⟨h, fun q hq hd => hx q (List.mem_append_left _ hq) hd⟩)
      · exact List.mem_append_right _ h
    · rcases List.mem_append.mp hq with h | h
      · exact hx q (List.mem_append_left _ (mem_U.mp h).1) hd
      · exact hx q (List.mem_append_right _ h) hd
def sh (n : Nat) (p : Pr) : Pr := (p.1, p.2 + n)
theorem sh_zero (l : List Pr) : l.map (sh 0) = l := by
  induction l with
  | nil => rfl
  | cons p l ih => rw [List.map_cons, ih]; rfl
theorem U_shift (l : List Pr) (n : Nat) : U ((U l).map (sh n)) = U (l.map (sh n)) := by
  have key : ∀ l : List Pr, U (l.map (sh n)) = (U l).map (sh n) := by
    intro l
    refine U_uniq ?_ fun p => ?_
    · rw [List.pairwise_map]
      exact (U_strict l).imp fun h => h.1
    · constructor
      · intro hp
        obtain ⟨q, hq, e⟩ := List.mem_map.mp hp
        obtain ⟨h1, h2⟩ := mem_U.mp hq
        subst e
        refine ⟨List.mem_map.mpr ⟨q, h1, rfl⟩, fun r hr hd => ?_⟩
        obtain ⟨s, hs, e⟩ := List.mem_map.mp hr
        subst e
        have := h2 s hs ⟨hd.1, Nat.le_of_add_le_add_right hd.2⟩
        rw [this]
      · rintro ⟨hp, hx⟩
        obtain ⟨q, hq, e⟩ := List.mem_map.mp hp
        subst e
        refine List.mem_map.mpr ⟨q, mem_U.mpr ⟨hq, fun r hr hd => ?_⟩, rfl⟩
        have := hx (sh n r) (List.mem_map.mpr ⟨r, hr, rfl⟩) ⟨hd.1, Nat.add_le_add_right hd.2 n⟩
        have e1 : (sh n r).1 = (sh n q).1 := congrArg (fun z : Pr => z.1) this
        have e2 : (sh n r).2 = (sh n q).2 := congrArg (fun z : Pr => z.2) this
        exact Prod.ext e1 (Nat.add_right_cancel e2)
  rw [key, key]
  have := U_app l []
  rw [List.append_nil, List.append_nil] at this
  rw [this]
theorem U_nil : U [] = [] := U_uniq .nil fun p => by simp [Mx]
theorem U_eq_nil {l : List Pr} (h : U l = []) : l = [] := by
  cases l with
  | nil => rfl
  | cons p l =>
    obtain ⟨q, hq, _⟩ := U_dom (l := p :: l) (p := p) (List.mem_cons_self ..)
    rw [h] at hq; cases hq
end K87M
end

section
set_option autoImplicit false
namespace K87M
/-! ### steps on heaps -/
inductive Step where
  | push (x : Int) (c : Nat)
  | pop (c : Nat)
  deriving DecidableEq
def Step.cnt : Step → Nat
  | .push _ c => c
  | .pop c => c
def Step.Ok (s : Step) : Prop := 1 ≤ s.cnt
def up (h : List Int) (x : Int) : List Int := h.filter fun y => decide (x ≤ y)
def aft (h : List Int) : Step → Option (List Int)
  | .push x c => some (up h x ++ List.replicate c x)
  | .pop c => if c ≤ h.length then some (h.take (h.length - c)) else none
def runF (h : List Int) (i : Nat) : List Step → List Int ⊕ Nat
  | [] => .inl h
  | s :: r => match aft h s with
    | none => .inr i
    | some g => runF g (i + 1) r
theorem runF_cons (h : List Int) (i : Nat) (s : Step) (r : List Step) : runF h i (s :: r) = match aft h s with
    | none => .inr i
    | some g => runF g (i + 1) r := rfl
theorem dec_take {h : List Int} (d : Dec h) (n : Nat) : Dec (h.take n) := List.Pairwise.sublist (List.take_sublist n h) d
theorem dec_up {h : List Int} (d : Dec h) (x : Int) : Dec (up h x) := List.Pairwise.sublist List.filter_sublist d
theorem mem_up {h : List Int} {x y : Int} : y ∈ up h x ↔ y ∈ h ∧ x ≤ y := by unfold up; simp
theorem up_append (a b : List Int) (x : Int) : up (a ++ b) x = up a x ++ up b x := by unfold up; simp
theorem up_rep (c : Nat) (x : Int) : up (List.replicate c x) x = List.replicate c x := by
  unfold up
  rw [List.filter_replicate, if_pos (by simp)]
theorem up_all {h : List Int} {x : Int} (a : ∀ y ∈ h, x ≤ y) : up h x = h := by
  unfold up
  exact List.filter_eq_self.mpr fun y hy => by simpa using a y hy
theorem up_none {h : List Int} {x : Int} (a : ∀ y ∈ h, y < x) : up h x = [] := by
  unfold up
  exact List.filter_eq_nil_iff.mpr fun y hy => by have := a y hy; simp; omega
theorem dec_push {h : List Int} (d : Dec h) (x : Int) (c : Nat) : Dec (up h x ++ List.replicate c x) := by
  unfold Dec
  rw [List.pairwise_append]
  refine ⟨dec_up d x, ?_, fun y hy z hz => ?_⟩
  · rw [List.pairwise_replicate]
    exact .inr (Int.le_refl x)
  · rw [List.eq_of_mem_replicate hz]
    exact (mem_up.mp hy).2
theorem dec_aft {h g : List Int} {s : Step} (d : Dec h) (e : aft h s = some g) : Dec g := by
  cases s with
  | push x c => cases e; exact dec_push d x c
  | pop c =>
    unfold aft at e
    simp only at e
    split at e
    · cases e; exact dec_take d _
    · cases e
theorem dec_runF : ∀ {ss : List Step} {h g : List Int} {i : Nat}, Dec h → runF h i ss = .inl g → Dec g
  | [], h, g, i, d, e => by cases e; exact d
  | s :: r, h, g, i, d, e => by
    unfold runF at e
    split at e
    · cases e
    · rename_i g' e'
      exact dec_runF (dec_aft d e') e
theorem runF_append : ∀ (a b : List Step) (h : List Int) (i : Nat), runF h i (a ++ b) = match runF h i a with | .inl g => runF g (i + a.length) b | .inr j => .inr j
  | [], b, h, i => rfl
  | s :: a, b, h, i => by
    rw [List.cons_append, runF_cons, runF_cons]
    cases aft h s with
    | none => rfl
    | some g =>
      simp only
      rw [runF_append a b g (i + 1)]
      have : i + 1 + a.length = i + (s :: a).length := by rw [List.length_cons]; omega
      rw [this]
/-- the place does not matter for a run that ends -/
theorem runF_place : ∀ {ss : List Step} {h g : List Int} {i : Nat} (j : Nat), runF h i ss = .inl g → runF h j ss = .inl g
  | [], h, g, i, j, e => e
  | s :: r, h, g, i, j, e => by
    unfold runF at e ⊢
    split at e
    · cases e
    · rename_i g' e'
      exact runF_place (j + 1) e
theorem runF_left {a b : List Step} {h g : List Int} {i : Nat} (e : runF h i (a ++ b) = .inl g) : ∃ g', runF h i a = .inl g' := by
  rw [runF_append] at e
  cases q : runF h i a with
  | inl g' => exact ⟨g', rfl⟩
  | inr j => rw [q] at e; cases e
/-- of a heap that never rises the small numbers stand on top -/
theorem up_take {h : List Int} (d : Dec h) (x : Int) : up h x = h.take (h.length - cntB h x) := by
  induction h with
  | nil => rfl
  | cons y h ih =>
    obtain ⟨d1, d2⟩ := List.pairwise_cons.mp d
    have ih := ih d2
    by_cases q : x ≤ y
    · have e1 : up (y :: h) x = y :: up h x := by
        unfold up
        rw [List.filter_cons, if_pos (by simpa using q)]
      have e2 : cntB (y :: h) x = cntB h x := by
        unfold cntB
        rw [List.filter_cons, if_neg (by simp; omega)]
      have hl : cntB h x ≤ h.length := List.length_filter_le _ _
      rw [e1, e2, ih]
      have : (y :: h).length - cntB h x = (h.length - cntB h x) + 1 := by rw [List.length_cons]; omega
      rw [this, List.take_succ_cons]
    · have a : ∀ z ∈ y :: h, z < x := fun z hz => by
        rcases (List.mem_cons.mp hz) with e | hz
        · omega
        · have := d1 z hz
          omega
      have e2 : cntB (y :: h) x = (y :: h).length := by
        unfold cntB
        rw [List.filter_eq_self.mpr fun z hz => by simpa using a z hz]
      rw [up_none a, e2]
      simp
theorem cntB_le (h : List Int) (x : Int) : cntB h x ≤ h.length := List.length_filter_le _ _
theorem cntB_mono (h : List Int) {x y : Int} (e : x ≤ y) : cntB h x ≤ cntB h y := by
  unfold cntB
  refine List.Sublist.length_le ?_
  have : h.filter (fun z => decide (z < x)) = (h.filter fun z => decide (z < y)).filter fun z => decide (z < x) := by
    rw [List.filter_filter]
    congr 1
    funext z
    by_cases q : z < x
    · have : z < y := by omega
      simp [q, this]
    · simp [q]
  rw [this]
  exact List.filter_sublist
theorem up_of_take {h : List Int} (d : Dec h) (n : Nat) (x : Int) : up (h.take n) x = h.take (min n (h.length - cntB h x)) := by
  rw [up_take (dec_take d n)]
  by_cases hn : n ≤ h.length
  · have hl : (h.take n).length = n := by rw [List.length_take]; omega
    have e : h = h.take n ++ h.drop n := (List.take_append_drop n h).symm
    have c : cntB h x = cntB (h.take n) x + cntB (h.drop n) x := by
      unfold cntB
      rw [← List.length_append, ← List.filter_append, ← e]
    have le1 := cntB_le (h.take n) x
    have le2 := cntB_le (h.drop n) x
    rw [List.length_drop] at le2
    rw [hl] at le1 ⊢
    rw [List.take_take]
    by_cases z : cntB (h.take n) x = 0
    · have : min (n - cntB (List.take n h) x) n = min n (h.length - cntB h x) := by omega
      rw [this]
    · -- some number below x is among the first n: all behind are
      have all : cntB (h.drop n) x = h.length - n := by
        obtain ⟨y, hy⟩ : ∃ y, y ∈ (h.take n).filter fun z => decide (z < x) := by
          cases q : (h.take n).filter fun z => decide (z < x) with
          | nil => unfold cntB at z; rw [q] at z; exact absurd rfl z
          | cons y t => exact ⟨y, List.mem_cons_self ..⟩
        have hy1 := (List.mem_filter.mp hy).1
        have hy2 : y < x := by simpa using (List.mem_filter.mp hy).2
        have dd : Dec (h.take n ++ h.drop n) := by rw [List.take_append_drop]; exact d
        unfold Dec at dd
        rw [List.pairwise_append] at dd
        unfold cntB
        rw [List.filter_eq_self.mpr fun w hw => by
          have := dd.2.2 y hy1 w hw
          simp; omega, List.length_drop]
      have : min (n - cntB (List.take n h) x) n = min n (h.length - cntB h x) := by omega
      rw [this]
  · have e : h.take n = h := List.take_of_length_le (by omega)
    rw [e]
    congr 1
    have := cntB_le h x
    omega

/-! ### effects: cuts, drops, new -/
structure Eff where
  cuts : List Pr
  drops : Nat
  new : List Int
def eff (e : Eff) : Step → Eff
  | .push x c => ⟨if e.new = [] ∨ ∀ y, e.new.head? = some y → y < x then e.cuts ++ [(x, 0)] else e.cuts, e.drops, up e.new x ++ List.replicate c x⟩
  | .pop c => ⟨e.cuts.map (sh (c - e.new.length)), e.drops + (c - e.new.length), e.new.take (e.new.length - c)⟩
def eff0 : Eff := ⟨[], 0, []⟩
def effs (ss : List Step) : Eff := ss.foldl eff eff0
/-- how many numbers go -/
def tk (h : List Int) (d : Nat) (C : List Pr) : Nat := (C.map fun p => cntB h p.1 + p.2).foldl max d
theorem foldl_max_ge (l : List Nat) (d : Nat) : d ≤ l.foldl max d ∧ ∀ n ∈ l, n ≤ l.foldl max d := by
  induction l generalizing d with
  | nil => exact ⟨Nat.le_refl d, fun n hn => nomatch hn⟩
  | cons a l ih =>
    obtain ⟨h1, h2⟩ := ih (max d a)
    refine ⟨Nat.le_trans (Nat.le_max_left d a) h1, fun n hn => ?_⟩
    rcases List.mem_cons.mp hn with e | hn
    · subst e; exact Nat.le_trans (Nat.le_max_right d n) h1
    · exact h2 n hn
theorem foldl_max_mem (l : List Nat) (d : Nat) : l.foldl max d = d ∨ l.foldl max d ∈ l := by
  induction l generalizing d with
  | nil => exact .inl rfl
  | cons a l ih =>
    show (l.foldl max (max d a)) = d ∨ _
    rcases ih (max d a) with e | e
    · by_cases q : a ≤ d
      · left; rw [e]; omega
      · right; rw [List.foldl_cons, e]; have : max d a = a := by omega
        rw [this]; exact List.mem_cons_self ..
    · right; exact List.mem_cons_of_mem _ e
theorem tk_ge {h : List Int} {d : Nat} {C : List Pr} : d ≤ tk h d C ∧ ∀ p ∈ C, cntB h p.1 + p.2 ≤ tk h d C := by
  obtain ⟨h1, h2⟩ := foldl_max_ge (C.map fun p => cntB h p.1 + p.2) d
  exact ⟨h1, fun p hp => h2 _ (List.mem_map.mpr ⟨p, hp, rfl⟩)⟩
theorem tk_at {h : List Int} {d : Nat} {C : List Pr} : tk h d C = d ∨ ∃ p ∈ C, tk h d C = cntB h p.1 + p.2 := by
  rcases foldl_max_mem (C.map fun p => cntB h p.1 + p.2) d with e | e
  · exact .inl e
  · obtain ⟨p, hp, e⟩ := List.mem_map.mp e
    exact .inr ⟨p, hp, e.symm⟩
theorem tk_uniq {h : List Int} {d n : Nat} {C : List Pr} (h1 : d ≤ n) (h2 : ∀ p ∈ C, cntB h p.1 + p.2 ≤ n) (h3 : n = d ∨ ∃ p ∈ C, n = cntB h p.1 + p.2) : tk h d C = n := by
  obtain ⟨g1, g2⟩ := tk_ge (h := h) (d := d) (C := C)
  rcases h3 with e | ⟨p, hp, e⟩
  · rcases tk_at (h := h) (d := d) (C := C) with q | ⟨p, hp, q⟩
    · omega
    · have := h2 p hp
      omega
  · have := g2 p hp
    rcases tk_at (h := h) (d := d) (C := C) with q | ⟨p', hp', q⟩
    · omega
    · have := h2 p' hp'
      omega
theorem tk_U (h : List Int) (d : Nat) (C : List Pr) : tk h d (U C) = tk h d C := by
  obtain ⟨g1, g2⟩ := tk_ge (h := h) (d := d) (C := C)
  refine tk_uniq g1 (fun p hp => g2 p (mem_U.mp hp).1) ?_
  rcases tk_at (h := h) (d := d) (C := C) with q | ⟨p, hp, q⟩
  · exact .inl q
  · right
    obtain ⟨r, hr, hd⟩ := U_dom hp
    refine ⟨r, hr, ?_⟩
    have a := g2 r (mem_U.mp hr).1
    have b := cntB_mono h hd.1
    have := hd.2
    omega
theorem tk_app (h : List Int) (d : Nat) (C : List Pr) (x : Int) : tk h d (C ++ [(x, 0)]) = max (tk h d C) (cntB h x) := by
  obtain ⟨g1, g2⟩ := tk_ge (h := h) (d := d) (C := C)
  refine tk_uniq (by omega) (fun p hp => ?_) ?_
  · rcases (List.mem_append.mp hp) with hp | hp
    · have := g2 p hp; omega
    · rw [List.mem_singleton.mp hp]; show cntB h x + 0 ≤ _; omega
  · by_cases q : cntB h x ≤ tk h d C
    · rcases tk_at (h := h) (d := d) (C := C) with e | ⟨p, hp, e⟩
      · left; omega
      · right; exact ⟨p, List.mem_append_left _ hp, by omega⟩
    · right; exact ⟨(x, 0), List.mem_append_right _ (List.mem_singleton.mpr rfl), by show _ = cntB h x + 0; omega⟩
theorem tk_sh (h : List Int) (d : Nat) (C : List Pr) (n : Nat) : tk h (d + n) (C.map (sh n)) = tk h d C + n := by
  obtain ⟨g1, g2⟩ := tk_ge (h := h) (d := d) (C := C)
  refine tk_uniq (by omega) (fun p hp => ?_) ?_
  · obtain ⟨q, hq, e⟩ := List.mem_map.mp hp
    subst e
    have := g2 q hq
    show cntB h q.1 + (q.2 + n) ≤ _
    omega
  · rcases tk_at (h := h) (d := d) (C := C) with e | ⟨p, hp, e⟩
    · left; omega
    · right; exact ⟨sh n p, List.mem_map.mpr ⟨p, hp, rfl⟩, by show _ = cntB h p.1 + (p.2 + n); omega⟩
/-- what an effect says is what its steps do -/
structure Says (h : List Int) (e : Eff) (g : List Int) : Prop where
  le : tk h e.drops e.cuts ≤ h.length
  eq : g = h.take (h.length - tk h e.drops e.cuts) ++ e.new
theorem head_all {h : List Int} {y : Int} (d : Dec h) (e : h.head? = some y) : ∀ z ∈ h, z ≤ y := by
  cases h with
  | nil => cases e
  | cons a h =>
    cases e
    intro z hz
    rcases List.mem_cons.mp hz with q | hz
    · omega
    · exact (List.pairwise_cons.mp d).1 z hz
theorem says_step {h g g' : List Int} {e : Eff} {s : Step} (dh : Dec h) (dg : Dec g) (sy : Says h e g) (a : aft g s = some g') : Says h (eff e s) g' := by
  obtain ⟨le, eq⟩ := sy
  have dn : Dec e.new := by
    have := dg
    rw [eq] at this
    unfold Dec at this ⊢
    rw [List.pairwise_append] at this
    exact this.2.1
  cases s with
  | push x c =>
    cases a
    by_cases q : e.new = [] ∨ ∀ y, e.new.head? = some y → y < x
    · have low : ∀ y ∈ e.new, y < x := by
        rcases q with q | q
        · rw [q]; intro y hy; cases hy
        · intro y hy
          cases e' : e.new with
          | nil => rw [e'] at hy; cases hy
          | cons z t =>
            have h1 : e.new.head? = some z := by rw [e']; rfl
            have := q z h1
            have := head_all dn h1 y hy
            omega
      have ec : (eff e (.push x c)).cuts = e.cuts ++ [(x, 0)] := if_pos q
      have ed : (eff e (.push x c)).drops = e.drops := rfl
      have en : (eff e (.push x c)).new = up e.new x ++ List.replicate c x := rfl
      have cb := cntB_le h x
      refine ⟨by rw [ec, ed, tk_app]; omega, ?_⟩
      rw [ec, ed, en, tk_app, eq, up_append, up_none low, up_of_take dh]
      rw [List.append_nil, List.nil_append]
      congr 2
      omega
    · have hq : ∃ y, e.new.head? = some y ∧ x ≤ y := by
        cases e' : e.new with
        | nil => exact absurd (.inl e') q
        | cons z t =>
          refine ⟨z, rfl, ?_⟩
          have := not_or.mp q
          by_cases hz : x ≤ z
          · exact hz
          · refine absurd (fun y hy => ?_) this.2
            rw [e'] at hy
            cases hy
            omega
      obtain ⟨y, hy, hxy⟩ := hq
      have ec : (eff e (.push x c)).cuts = e.cuts := if_neg q
      have ed : (eff e (.push x c)).drops = e.drops := rfl
      have en : (eff e (.push x c)).new = up e.new x ++ List.replicate c x := rfl
      refine ⟨by rw [ec, ed]; exact le, ?_⟩
      rw [ec, ed, en, eq, up_append, up_all (h := List.take _ _) fun z hz => ?_, List.append_assoc]
      have dg' := dg
      rw [eq] at dg'
      unfold Dec at dg'
      rw [List.pairwise_append] at dg'
      have := dg'.2.2 z hz y (List.mem_of_mem_head? (by rw [hy]; rfl))
      omega
  | pop c =>
    have a' : (if c ≤ g.length then some (g.take (g.length - c)) else none) = some g' := a
    split at a'
    · rename_i hc
      cases a'
      have gl : g.length = (h.length - tk h e.drops e.cuts) + e.new.length := by
        rw [eq, List.length_append, List.length_take]
        omega
      have ec : (eff e (.pop c)).cuts = e.cuts.map (sh (c - e.new.length)) := rfl
      have ed : (eff e (.pop c)).drops = e.drops + (c - e.new.length) := rfl
      have en : (eff e (.pop c)).new = e.new.take (e.new.length - c) := rfl
      refine ⟨by rw [ec, ed, tk_sh]; omega, ?_⟩
      rw [ec, ed, en, tk_sh]
      generalize tk h e.drops e.cuts = R at *
      have tl : (h.take (h.length - R)).length = h.length - R := by rw [List.length_take]; omega
      rw [eq] at gl ⊢
      rw [List.take_append, tl, gl]
      congr 1
      · rw [List.take_take]
        congr 1
        omega
      · congr 1
        omega
    · cases a'
theorem says_run : ∀ {ss : List Step} {h g g' : List Int} {e : Eff} {i : Nat}, Dec h → Dec g → Says h e g → runF g i ss = .inl g' → Says h (ss.foldl eff e) g'
  | [], h, g, g', e, i, _, _, sy, r => by cases r; exact sy
  | s :: ss, h, g, g', e, i, dh, dg, sy, r => by
    unfold runF at r
    split at r
    · cases r
    · rename_i g1 a
      exact says_run (ss := ss) (e := eff e s) dh (dec_aft dg a) (says_step dh dg sy a) r
theorem says_0 (h : List Int) : Says h eff0 h := ⟨by show tk h 0 [] ≤ _; exact Nat.zero_le _, by show h = h.take (h.length - 0) ++ []; simp⟩
theorem says_effs {ss : List Step} {h g : List Int} (dh : Dec h) (r : runF h 0 ss = .inl g) : Says h (effs ss) g := says_run dh dh (says_0 h) r
/-- the form of an effect -/
structure Form (e : Eff) : Prop where
  dec : Dec e.new
  low : ∀ p ∈ e.cuts, p.2 ≤ e.drops
  top : ∀ y, e.new.head? = some y → ∃ p ∈ e.cuts, y ≤ p.1
theorem form_step {e : Eff} (f : Form e) (s : Step) (ok : s.Ok) : Form (eff e s) := by
  obtain ⟨d, lo, tp⟩ := f
  cases s with
  | push x c =>
    have sub : ∀ p ∈ e.cuts, p ∈ (eff e (.push x c)).cuts := fun p hp => by
      show p ∈ (if _ then _ else _)
      split
      · exact List.mem_append_left _ hp
      · exact hp
    refine ⟨dec_push d x c, fun p hp => ?_, fun y hy => ?_⟩
    · have hp : p ∈ (if e.new = [] ∨ ∀ y, e.new.head? = some y → y < x then e.cuts ++ [(x, 0)] else e.cuts) := hp
      split at hp
      · rcases (List.mem_append.mp hp) with hp | hp
        · exact lo p hp
        · rw [List.mem_singleton.mp hp]; exact Nat.zero_le _
      · exact lo p hp
    · have hy : (up e.new x ++ List.replicate c x).head? = some y := hy
      by_cases q : e.new = [] ∨ ∀ y, e.new.head? = some y → y < x
      · have mem : (x, 0) ∈ (eff e (.push x c)).cuts := by
          show (x, 0) ∈ (if _ then _ else _)
          rw [if_pos q]
          exact List.mem_append_right _ (List.mem_singleton.mpr rfl)
        refine ⟨(x, 0), mem, ?_⟩
        have low : up e.new x = [] := up_none fun z hz => by
          rcases q with q | q
          · rw [q] at hz; cases hz
          · cases e' : e.new with
            | nil => rw [e'] at hz; cases hz
            | cons w t =>
              have h1 : e.new.head? = some w := by rw [e']; rfl
              have := q w h1
              have := head_all d h1 z hz
              omega
        rw [low, List.nil_append] at hy
        have := List.eq_of_mem_replicate (List.mem_of_mem_head? hy)
        show y ≤ x
        omega
      · cases e' : e.new with
        | nil => exact absurd (.inl e') q
        | cons z t =>
          have h1 : e.new.head? = some z := by rw [e']; rfl
          obtain ⟨p, hp, hz⟩ := tp z h1
          refine ⟨p, sub p hp, ?_⟩
          have hzx : x ≤ z := by
            by_cases hzx : x ≤ z
            · exact hzx
            · refine absurd (.inr fun w hw => ?_) q
              rw [h1] at hw
              cases hw
              omega
          have : y ∈ up e.new x ++ List.replicate c x := List.mem_of_mem_head? hy
          rcases List.mem_append.mp this with m | m
          · have := head_all d h1 y (mem_up.mp m).1
            omega
          · have := List.eq_of_mem_replicate m
            omega
  | pop c =>
    refine ⟨dec_take d _, fun p hp => ?_, fun y hy => ?_⟩
    · obtain ⟨q, hq, e1⟩ := List.mem_map.mp hp
      subst e1
      exact Nat.add_le_add_right (lo q hq) _
    · have hy : (e.new.take (e.new.length - c)).head? = some y := hy
      have h1 : e.new.head? = some y := by
        cases e' : e.new with
        | nil => rw [e'] at hy; simp at hy
        | cons z t =>
          rw [e'] at hy
          cases n : (z :: t).length - c with
          | zero => rw [n] at hy; cases hy
          | succ m => rw [n] at hy; exact hy
      obtain ⟨p, hp, hz⟩ := tp y h1
      exact ⟨sh _ p, List.mem_map.mpr ⟨p, hp, rfl⟩, hz⟩
theorem form_0 : Form eff0 := ⟨.nil, fun p hp => (nomatch hp), fun y hy => (nomatch hy)⟩
theorem form_run : ∀ {ss : List Step} {e : Eff}, Form e → (∀ s ∈ ss, s.Ok) → Form (ss.foldl eff e)
  | [], e, f, _ => f
  | s :: ss, e, f, ok => form_run (ss := ss) (e := eff e s) (form_step f s (ok s (List.mem_cons_self ..))) fun t ht => ok t (List.mem_cons_of_mem _ ht)
theorem form_effs {ss : List Step} (ok : ∀ s ∈ ss, s.Ok) : Form (effs ss) := form_run form_0 ok
end K87M
end

section
set_option Elab.async false
set_option linter.all false
set_option maxRecDepth 100000
set_option maxHeartbeats 1100000
set_option autoImplicit false
namespace K87
open PySem L2 K87M
def top (i : Nat) : Stmt := PySem.Challenge.pw_skylineeffect_k87_whole_sessions_of_many.main.body.getD i (.Pass ⟨0, 0, 0, 0⟩)
/-- the built-ins that the program leans on -/
structure Bl (mg : Str → Option Value) : Prop where
  isinstance : mg "isinstance" = none
  len : mg "len" = none
  all : mg "all" = none
  sum : mg "sum" = none
  min : mg "min" = none
  max : mg "max" = none
  abs : mg "abs" = none
  zip : mg "zip" = none
  range : mg "range" = none
  enumerate : mg "enumerate" = none
  sorted : mg "sorted" = none
  list : mg "list" = none
  tuple : mg "tuple" = none
  int : mg "int" = none
  bool : mg "bool" = none
  str : mg "str" = none
theorem bt_int : bootBuiltins "int" = some (.type "int") := by decide +kernel
theorem bt_bool : bootBuiltins "bool" = some (.type "bool") := by decide +kernel
theorem bt_str : bootBuiltins "str" = some (.type "str") := by decide +kernel
theorem bt_tuple : bootBuiltins "tuple" = some (.type "tuple") := by decide +kernel
theorem bt_list : bootBuiltins "list" = some (.type "list") := by decide +kernel
theorem kt_ii : kitB "int" "int" = some true := by decide +kernel
theorem kt_ib : kitB "int" "bool" = some false := by decide +kernel
theorem kt_tt : kitB "tuple" "tuple" = some true := by decide +kernel
theorem kt_ss : kitB "str" "str" = some true := by decide +kernel
/-! ### data -/
def runD (r : Int × Nat) : PyData := .tuple [.int r.1, .int r.2]
def rnsD (rs : List (Int × Nat)) : PyData := .tuple (rs.map runD)
abbrev stk (h : List Int) : PyData := rnsD (runs h)
def stepD : K87M.Step → PyData
  | .push x c => .tuple [.str "push", .int x, .int c]
  | .pop c => .tuple [.str "pop", .int c]
def effD (C : List Pr) (d : Nat) (rs : List (Int × Nat)) : PyData := .tuple [rnsD C, .int d, rnsD rs]
def encE (e : Eff) : PyData := effD (U e.cuts) e.drops (runs e.new)
/-- a def that answers with data and changes nothing -/
def ret (R : List AV → PyData → Prop) : FS := fun as μ k _ => ∃ r, R as r ∧ k (.d r) μ

section
variable {X : Cx} {E : XK} {F : KF} {ρ : Env'} {μ : Mu} {k : KV'} {kT : Bool → Mu → Prop} {a b : Expr} {p1 p2 pos : Pos}
/-- isinstance(e, T) of data -/
theorem d_isi {x : Str} {U : String} (hg : Gl X "isinstance") (hm : X.mg "isinstance" = none) (hg2 : Gl X x) (hm2 : X.mg x = none) (hv : bootBuiltins x = some (.type U))
    (h : dE X E F a ρ μ fun y μ1 => ∃ (T : String) (b : Bool), tyN y = some T ∧ kitB T U = some b ∧ k (bv b) μ1)
    (hn : x ≠ "__name__" := by decide) (hd : (x == ("__debug__" : Str)) = false := by decide)
    (hs1 : starEach [a, .Name x p2] X.env = (false, eval a X.env) :: starEach [.Name x p2] X.env := by rfl) (hs2 : starEach [.Name x p2] X.env = (false, eval (.Name x p2) X.env) :: starEach [] X.env := by rfl)
    (hpl : (backTo pos (starEach [.Name x p2] X.env)).any (·.1) = false := by rfl) :
    dE X E F (.Call (.Name "isinstance" p1) [a, .Name x p2] [] pos) ρ μ k :=
  d_callB call_isi hg hm (by decide +kernel) (d_cons (h.mono fun y μ1 ⟨T, b, h1, h2, h3⟩ => d_cons (d_ty hg2 hm2 hv (d_nil (dc_isi ⟨y, T, U, b, rfl, h1, h2, h3⟩)) hn hd) hs2) hs1) (he := hs1) (hpl := hpl)
theorem d_len (hg : Gl X "len") (hm : X.mg "len" = none) (h : dE X E F a ρ μ fun y μ1 => ∃ xs, SeqA μ1 y xs ∧ k (iv xs.length) μ1)
    (hs1 : starEach [a] X.env = (false, eval a X.env) :: starEach [] X.env := by rfl) (hpl : (backTo pos (starEach [] X.env)).any (·.1) = false := by rfl) :
    dE X E F (.Call (.Name "len" p1) [a] [] pos) ρ μ k :=
  d_callB call_len_seq hg hm (by decide +kernel) (d_cons (h.mono fun y μ1 ⟨xs, h1, h2⟩ => d_nil (dc_len ⟨y, xs, rfl, h1, h2⟩)) hs1) (he := hs1) (hpl := hpl)
theorem d_sum (hc : X.calm = true) (hg : Gl X "sum") (hm : X.mg "sum" = none) (h : dE X E F a ρ μ fun y μ1 => ∃ ns : List Int, LstA μ1 y (ns.map iv) ∧ k (iv ns.sum) μ1)
    (hs1 : starEach [a] X.env = (false, eval a X.env) :: starEach [] X.env := by rfl) (hpl : (backTo pos (starEach [] X.env)).any (·.1) = false := by rfl) :
    dE X E F (.Call (.Name "sum" p1) [a] [] pos) ρ μ k :=
  d_callB (cr_sum hc) hg hm (by decide +kernel) (d_cons (h.mono fun y μ1 ⟨xs, h1, h2⟩ => d_nil (dc_sum ⟨y, xs, rfl, h1, h2⟩)) hs1) (he := hs1) (hpl := hpl)
theorem d_all (hc : X.calm = true) (hg : Gl X "all") (hm : X.mg "all" = none) (h : dE X E F a ρ μ fun y μ1 => ∃ bs : List Bool, LstA μ1 y (bs.map bv) ∧ k (bv (bs.all id)) μ1)
    (hs1 : starEach [a] X.env = (false, eval a X.env) :: starEach [] X.env := by rfl) (hpl : (backTo pos (starEach [] X.env)).any (·.1) = false := by rfl) :
    dE X E F (.Call (.Name "all" p1) [a] [] pos) ρ μ k :=
  d_callB (cr_all hc) hg hm (by decide +kernel) (d_cons (h.mono fun y μ1 ⟨xs, h1, h2⟩ => d_nil (dc_all ⟨y, xs, rfl, h1, h2⟩)) hs1) (he := hs1) (hpl := hpl)
theorem d_list (hg : Gl X "list") (hm : X.mg "list" = none) (h : dE X E F a ρ μ fun y μ1 => ∃ xs, SeqA μ1 y xs ∧ NewL μ1 xs k)
    (hs1 : starEach [a] X.env = (false, eval a X.env) :: starEach [] X.env := by rfl) (hpl : (backTo pos (starEach [] X.env)).any (·.1) = false := by rfl) :
    dE X E F (.Call (.Name "list" p1) [a] [] pos) ρ μ k :=
  d_callTy call_list_of hg hm (by decide +kernel) (d_cons (h.mono fun y μ1 ⟨xs, h1, h2⟩ => d_nil (dc_listOf ⟨y, xs, rfl, h1, h2⟩)) hs1) (he := hs1) (hpl := hpl)
theorem d_tuple (hg : Gl X "tuple") (hm : X.mg "tuple" = none) (h : dE X E F a ρ μ fun y μ1 => ∃ ds : List PyData, LstA μ1 y (ds.map .d) ∧ k (tv ds) μ1)
    (hs1 : starEach [a] X.env = (false, eval a X.env) :: starEach [] X.env := by rfl) (hpl : (backTo pos (starEach [] X.env)).any (·.1) = false := by rfl) :
    dE X E F (.Call (.Name "tuple" p1) [a] [] pos) ρ μ k :=
  d_callTy call_tuple_of hg hm (by decide +kernel) (d_cons (h.mono fun y μ1 ⟨xs, h1, h2⟩ => d_nil (dc_tupOf ⟨y, xs, rfl, h1, h2⟩)) hs1) (he := hs1) (hpl := hpl)
theorem d_min2 (hc : X.calm = true) (hg : Gl X "min") (hm : X.mg "min" = none) (h : dE X E F a ρ μ fun y μ1 => dE X E F b ρ μ1 fun z μ2 => ∃ i j, y = iv i ∧ z = iv j ∧ k (iv (if j < i then j else i)) μ2)
    (hs1 : starEach [a, b] X.env = (false, eval a X.env) :: starEach [b] X.env := by rfl) (hs2 : starEach [b] X.env = (false, eval b X.env) :: starEach [] X.env := by rfl) (hpl : (backTo pos (starEach [b] X.env)).any (·.1) = false := by rfl) :
    dE X E F (.Call (.Name "min" p1) [a, b] [] pos) ρ μ k :=
  d_callB (call_min2 hc) hg hm (by decide +kernel) (d_cons (h.mono fun y μ1 h1 => d_cons (h1.mono fun z μ2 ⟨i, j, h1, h2, h3⟩ => d_nil (dc_min2 ⟨i, j, by rw [h1, h2], h3⟩)) hs2) hs1) (he := hs1) (hpl := hpl)
theorem d_max2 (hc : X.calm = true) (hg : Gl X "max") (hm : X.mg "max" = none) (h : dE X E F a ρ μ fun y μ1 => dE X E F b ρ μ1 fun z μ2 => ∃ i j, y = iv i ∧ z = iv j ∧ k (iv (if j > i then j else i)) μ2)
    (hs1 : starEach [a, b] X.env = (false, eval a X.env) :: starEach [b] X.env := by rfl) (hs2 : starEach [b] X.env = (false, eval b X.env) :: starEach [] X.env := by rfl) (hpl : (backTo pos (starEach [b] X.env)).any (·.1) = false := by rfl) :
    dE X E F (.Call (.Name "max" p1) [a, b] [] pos) ρ μ k :=
  d_callB (call_max2 hc) hg hm (by decide +kernel) (d_cons (h.mono fun y μ1 h1 => d_cons (h1.mono fun z μ2 ⟨i, j, h1, h2, h3⟩ => d_nil (dc_max2 ⟨i, j, by rw [h1, h2], h3⟩)) hs2) hs1) (he := hs1) (hpl := hpl)
theorem d_max1 (hc : X.calm = true) (hg : Gl X "max") (hm : X.mg "max" = none) (h : dE X E F a ρ μ fun y μ1 => ∃ ns : List Int, LstA μ1 y (ns.map iv) ∧ 0 < ns.length ∧ ∀ m, m ∈ ns → (∀ z, z ∈ ns → z ≤ m) → k (iv m) μ1)
    (hs1 : starEach [a] X.env = (false, eval a X.env) :: starEach [] X.env := by rfl) (hpl : (backTo pos (starEach [] X.env)).any (·.1) = false := by rfl) :
    dE X E F (.Call (.Name "max" p1) [a] [] pos) ρ μ k :=
  d_callB (cr_max hc) hg hm (by decide +kernel) (d_cons (h.mono fun y μ1 ⟨xs, h1, h2⟩ => d_nil (dc_max ⟨y, xs, rfl, h1, h2⟩)) hs1) (he := hs1) (hpl := hpl)

theorem d_t (h : dE X E F a ρ μ (kB kT)) (he : ∀ whole, isTrue a X.env whole = (do let v ← whole; standAt a.pos; holding [v] (truthy v)) := by intro _; rfl) : dT X E F a ρ μ kT := d_tval h he
end
end K87
end

section
set_option Elab.async false
set_option linter.all false
set_option maxRecDepth 100000
set_option maxHeartbeats 1100000
set_option autoImplicit false
namespace K87
open PySem L2 K87M
/-- data without truth values and dicts, by depth -/
inductive Gd : Nat → PyData → Prop
  | non (n : Nat) : Gd n .none
  | int (n : Nat) (i : Int) : Gd n (.int i)
  | str (n : Nat) (x : Str) (h : PyData.canLay0 (.str x) = true) : Gd n (.str x)
  | tup (n : Nat) (xs : List PyData) (h : ∀ x ∈ xs, Gd n x) : Gd (n + 1) (.tuple xs)
  | lst (n : Nat) (xs : List PyData) (h : ∀ x ∈ xs, Gd n x) : Gd (n + 1) (.list xs)
theorem canAll {xs : List PyData} (h : ∀ x ∈ xs, PyData.canLay0 x = true) : PyData.canLayAll0 xs = true := by
  induction xs with
  | nil => rfl
  | cons a l ih =>
    unfold PyData.canLayAll0
    rw [h a (List.mem_cons_self ..), ih fun x hx => h x (List.mem_cons_of_mem _ hx)]
    rfl
theorem depAll {n : Nat} {xs : List PyData} (h : ∀ x ∈ xs, PyData.depth x ≤ n) : PyData.depthAll xs ≤ n := by
  induction xs with
  | nil => exact Nat.zero_le _
  | cons a l ih =>
    unfold PyData.depthAll
    have := h a (List.mem_cons_self ..)
    have := ih fun x hx => h x (List.mem_cons_of_mem _ hx)
    omega
theorem gd_can : ∀ {n : Nat} {d : PyData}, Gd n d → PyData.canLay0 d = true ∧ PyData.depth d ≤ n := by
  intro n d h
  induction h with
  | non n => exact ⟨rfl, Nat.zero_le _⟩
  | int n i => exact ⟨rfl, Nat.zero_le _⟩
  | str n x h => exact ⟨h, Nat.zero_le _⟩
  | tup n xs h ih =>
    refine ⟨?_, ?_⟩
    · unfold PyData.canLay0; exact canAll fun x hx => (ih x hx).1
    · unfold PyData.depth; have := depAll fun x hx => (ih x hx).2; omega
  | lst n xs h ih =>
    refine ⟨?_, ?_⟩
    · unfold PyData.canLay0; exact canAll fun x hx => (ih x hx).1
    · unfold PyData.depth; have := depAll fun x hx => (ih x hx).2; omega
theorem gd_shaped {n : Nat} {d : PyData} (h : Gd n d) (hn : n ≤ 64) : SeqAt.shaped d = true := by
  obtain ⟨h1, h2⟩ := gd_can h
  unfold SeqAt.shaped
  rw [h1, decide_eq_true (by omega : d.depth ≤ 64)]
  rfl
theorem eqvAll_cons' (x y : PyData) (xs ys : List PyData) : PyData.eqvAll (x :: xs) (y :: ys) = (PyData.eqv x y && PyData.eqvAll xs ys) := by rw [PyData.eqvAll]
theorem eqvAll_iff : ∀ {xs ys : List PyData}, (∀ x ∈ xs, ∀ y ∈ ys, (PyData.eqv x y = true ↔ x = y)) → (PyData.eqvAll xs ys = true ↔ xs = ys)
  | [], [], _ => by unfold PyData.eqvAll; simp
  | [], _ :: _, _ => by unfold PyData.eqvAll; simp
  | _ :: _, [], _ => by unfold PyData.eqvAll; simp
  | x :: xs, y :: ys, h => by
    rw [eqvAll_cons', Bool.and_eq_true, h x (List.mem_cons_self ..) y (List.mem_cons_self ..), eqvAll_iff fun a ha b hb => h a (List.mem_cons_of_mem _ ha) b (List.mem_cons_of_mem _ hb)]
    simp
theorem gd_eqv : ∀ {n : Nat} {a : PyData}, Gd n a → ∀ {m : Nat} {b : PyData}, Gd m b → (PyData.eqv a b = true ↔ a = b) := by
  intro n a h
  induction h with
  | non n => intro m b g; cases g <;> (unfold PyData.eqv; simp)
  | int n i => intro m b g; cases g <;> (unfold PyData.eqv; simp)
  | str n x hx => intro m b g; cases g <;> (unfold PyData.eqv; simp)
  | tup n xs hx ih =>
    intro m b g
    cases g with
    | tup m ys hy => unfold PyData.eqv; rw [eqvAll_iff fun x hx y hyy => ih x hx (hy y hyy)]; simp
    | _ => unfold PyData.eqv; simp
  | lst n xs hx ih =>
    intro m b g
    cases g with
    | lst m ys hy => unfold PyData.eqv; rw [eqvAll_iff fun x hx y hyy => ih x hx (hy y hyy)]; simp
    | _ => unfold PyData.eqv; simp
theorem gd_run (n : Nat) (r : Int × Nat) : Gd (n + 1) (runD r) := .tup n _ fun x hx => by
  rcases (List.mem_cons.mp hx) with e | hx
  · subst e; exact .int _ _
  · rw [List.mem_singleton.mp hx]; exact .int _ _
theorem gd_rns (n : Nat) (rs : List (Int × Nat)) : Gd (n + 2) (rnsD rs) := .tup _ _ fun x hx => by
  obtain ⟨r, _, e⟩ := List.mem_map.mp hx
  subst e; exact gd_run n r
theorem runD_inj {a b : Int × Nat} (h : runD a = runD b) : a = b := by
  unfold runD at h
  injection h with h
  injection h with h1 h2
  injection h2 with h2 _
  injection h1 with h1
  injection h2 with h2
  exact Prod.ext h1 (by omega)
theorem map_inj {α β : Type} {f : α → β} (hf : ∀ a b, f a = f b → a = b) : ∀ {xs ys : List α}, xs.map f = ys.map f → xs = ys
  | [], [], _ => rfl
  | [], _ :: _, h => by cases h
  | _ :: _, [], h => by cases h
  | a :: xs, b :: ys, h => by
    (rw [List.map_cons, List.map_cons] at h); injection h with h1 h2
    rw [hf a b h1, map_inj hf h2]
theorem rnsD_inj {a b : List (Int × Nat)} (h : rnsD a = rnsD b) : a = b := by
  unfold rnsD at h
  injection h with h
  exact map_inj (fun _ _ => runD_inj) h
theorem gd_step (n : Nat) (s : K87M.Step) : Gd (n + 1) (stepD s) := by
  cases s with
  | push x c =>
    (refine .tup n _ fun x hx => ?_); rcases List.mem_cons.mp hx with e | hx
    · subst e; exact .str _ _ (by decide +kernel)
    · rcases List.mem_cons.mp hx with e | hx
      · subst e; exact .int _ _
      · rw [List.mem_singleton.mp hx]; exact .int _ _
  | pop c =>
    (refine .tup n _ fun x hx => ?_); rcases List.mem_cons.mp hx with e | hx
    · subst e; exact .str _ _ (by decide +kernel)
    · rw [List.mem_singleton.mp hx]; exact .int _ _
theorem stepD_inj {a b : K87M.Step} (h : stepD a = stepD b) : a = b := by
  cases a <;> cases b <;> unfold stepD at h <;> injection h with h <;> injection h with h1 h2
  · injection h2 with h2 h3
    injection h2 with h2
    injection h3 with h3
    injection h3 with h3
    rw [h2, Int.ofNat_inj.mp h3]
  · injection h2 with _ h2; cases h2
  · injection h2 with _ h2; cases h2
  · injection h2 with h2
    injection h2 with h2
    rw [Int.ofNat_inj.mp h2]
theorem gd_eff (n : Nat) (C : List Pr) (d : Nat) (rs : List (Int × Nat)) : Gd (n + 3) (effD C d rs) := .tup _ _ fun x hx => by
  rcases (List.mem_cons.mp hx) with e | hx
  · subst e; exact gd_rns n _
  · rcases List.mem_cons.mp hx with e | hx
    · subst e; exact .int _ _
    · rw [List.mem_singleton.mp hx]; exact gd_rns n _
/-- == and != of good data -/
theorem dr_eqG {K : PySem.W.Frag} {x y : AV} {μ : Mu} {k : KV'} (h : ∃ c d n m, x = .d c ∧ y = .d d ∧ Gd n c ∧ Gd m d ∧ n ≤ 64 ∧ m ≤ 64 ∧ (c = d → k (bv true) μ) ∧ (c ≠ d → k (bv false) μ)) : dR K (rEqD K) x y μ k := by
  obtain ⟨c, d, n, m, rfl, rfl, h1, h2, hn, hm, q1, q2⟩ := h
  refine dr_eq ⟨c, d, rfl, rfl, gd_shaped h1 hn, gd_shaped h2 hm, ?_⟩
  have := gd_eqv h1 h2
  cases e : PyData.eqv c d with
  | true => exact q1 (this.mp e)
  | false => exact q2 fun z => by rw [this.mpr z] at e; cases e
theorem dr_neG {K : PySem.W.Frag} {x y : AV} {μ : Mu} {k : KV'} (h : ∃ c d n m, x = .d c ∧ y = .d d ∧ Gd n c ∧ Gd m d ∧ n ≤ 64 ∧ m ≤ 64 ∧ (c = d → k (bv false) μ) ∧ (c ≠ d → k (bv true) μ)) : dR K (rNeD K) x y μ k := by
  obtain ⟨c, d, n, m, rfl, rfl, h1, h2, hn, hm, q1, q2⟩ := h
  refine dr_ne ⟨c, d, rfl, rfl, gd_shaped h1 hn, gd_shaped h2 hm, ?_⟩
  have := gd_eqv h1 h2
  cases e : PyData.eqv c d with
  | true => exact q1 (this.mp e)
  | false => exact q2 fun z => by rw [this.mpr z] at e; cases e
theorem kb {k : KV'} {μ : Mu} {b c : Bool} (h : b = c) (q : k (bv c) μ) : k (bv b) μ := h ▸ q
theorem ki {k : KV'} {μ : Mu} {b c : Int} (h : b = c) (q : k (iv c) μ) : k (iv b) μ := h ▸ q
theorem kd {k : KV'} {μ : Mu} {b c : PyData} (h : b = c) (q : k (.d c) μ) : k (.d b) μ := h ▸ q
theorem ktt {k : KV'} {μ : Mu} {b c : List PyData} (h : b = c) (q : k (tv c) μ) : k (tv b) μ := h ▸ q
theorem klv {k : KV'} {μ : Mu} {b c : List PyData} (h : b = c) (q : k (lv c) μ) : k (lv b) μ := h ▸ q
end K87
end

section
set_option Elab.async false
set_option linter.all false
set_option maxRecDepth 100000
set_option maxHeartbeats 1100000
set_option autoImplicit false
namespace K87
open PySem L2 K87M
section
variable {P : Program} {w : World} {K : PySem.W.Frag} {mg : Str → Option Value} {base : Heap} {f : Addr} {fd : FuncData}
/-! ### is_integer, is_count, is_run -/
def fsIsInt : FS := ret fun as r => ∃ n, as = [iv n] ∧ r = .bool true
theorem sc_is_integer : FnScope ["value"] ["value"] (C8.fnScope (top 10)) := C8.fnScope_by (by decide +kernel)
theorem cal_is_integer (D : C8.Def K mg "is_integer" (top 10) f fd) (b : Binds K fd ["value"] []) (B : Bl mg) : C8.Cal P w K mg base 1 "is_integer" (spF K fsIsInt) [] := by
  refine calD D b sc_is_integer (fun as μ k F ⟨_, ⟨n, h, _⟩, _⟩ => by rw [h]; rfl) fun cdv A outer s H E hr as μ k F ⟨r, ⟨n, h, hr⟩, hk⟩ => ?_
  subst h hr
  refine s_one (s_ret ?_)
  refine d_and ?_
  refine d_isi rfl B.isinstance rfl B.int bt_int ?_
  refine d_var 0 rfl ?_
  refine ⟨_, _, rfl, kt_ii, _, rfl, fun _ => ?_, fun h => absurd h (by decide)⟩
  refine d_one (d_not ?_)
  refine d_isi rfl B.isinstance rfl B.bool bt_bool ?_
  refine d_var 0 rfl ?_
  exact ⟨_, _, rfl, kt_ib, _, rfl, hk⟩
def fsIsCount : FS := ret fun as r => ∃ n, 1 ≤ n ∧ as = [iv n] ∧ r = .bool true
theorem sc_is_count : FnScope ["value"] ["value"] (C8.fnScope (top 11)) := C8.fnScope_by (by decide +kernel)
theorem cal_is_count (D : C8.Def K mg "is_count" (top 11) f fd) (b : Binds K fd ["value"] []) (B : Bl mg) (c1 : C8.Cal P w K mg base 1 "is_integer" (spF K fsIsInt) []) : C8.Cal P w K mg base 2 "is_count" (spF K fsIsCount) [] := by
  refine calD D b sc_is_count (fun as μ k F ⟨_, ⟨n, _, h, _⟩, _⟩ => by rw [h]; rfl) fun cdv A outer s H E hr as μ k F ⟨r, ⟨n, hn, h, hr'⟩, hk⟩ => ?_
  subst h hr'
  refine s_one (s_ret ?_)
  refine d_and ?_
  refine d_call c1 hr (by decide) rfl (d_cons ?_)
  refine d_var 0 rfl ?_
  refine d_nil ?_
  refine ⟨_, ⟨_, rfl, rfl⟩, _, rfl, fun _ => ?_, fun h => absurd h (by decide)⟩
  refine d_one ?_
  refine d_cmp op_ge rfl ?_
  refine d_var 0 rfl ?_
  refine d_int ?_
  refine dr_c ⟨_, _, rfl, rfl, ?_⟩
  exact kb (decide_eq_true hn) hk
def fsIsRun : FS := ret fun as r => ∃ x : Int × Nat, 1 ≤ x.2 ∧ as = [.d (runD x)] ∧ r = .bool true
theorem sc_is_run : FnScope ["value"] ["value"] (C8.fnScope (top 12)) := C8.fnScope_by (by decide +kernel)
theorem cal_is_run (D : C8.Def K mg "is_run" (top 12) f fd) (b : Binds K fd ["value"] []) (B : Bl mg) (c1 : C8.Cal P w K mg base 1 "is_integer" (spF K fsIsInt) []) (c2 : C8.Cal P w K mg base 2 "is_count" (spF K fsIsCount) []) : C8.Cal P w K mg base 3 "is_run" (spF K fsIsRun) [] := by
  refine calD D b sc_is_run (fun as μ k F ⟨_, ⟨n, _, h, _⟩, _⟩ => by rw [h]; rfl) fun cdv A outer s H E hr as μ k F ⟨r, ⟨n, hn, h, hr'⟩, hk⟩ => ?_
  subst h hr'
  refine s_one (s_ret ?_)
  refine d_and ?_
  refine d_isi rfl B.isinstance rfl B.tuple bt_tuple ?_
  refine d_var 0 rfl ?_
  refine ⟨_, _, rfl, kt_tt, _, rfl, fun _ => ?_, fun h => absurd h (by decide)⟩
  refine d_and ?_
  refine d_cmp (op_eqD hr.units) rfl ?_
  refine d_len rfl B.len ?_
  refine d_var 0 rfl ?_
  refine ⟨_, .tup _, ?_⟩
  refine d_int ?_
  refine dr_eqG ⟨_, _, 0, 0, rfl, rfl, .int _ _, .int _ _, by decide, by decide, fun _ => ⟨_, rfl, fun _ => ?_, fun h => absurd h (by decide)⟩, fun h => absurd rfl h⟩
  refine d_and ?_
  refine d_call c1 hr (by decide) rfl (d_cons ?_)
  refine d_ix ?_
  refine d_var 0 rfl ?_
  refine d_int ?_
  refine ⟨_, _, _, .tup _, rfl, rfl, ?_⟩
  refine d_nil ?_
  refine ⟨_, ⟨_, rfl, rfl⟩, _, rfl, fun _ => ?_, fun h => absurd h (by decide)⟩
  refine d_one ?_
  refine d_call c2 hr (by decide) rfl (d_cons ?_)
  refine d_ix ?_
  refine d_var 0 rfl ?_
  refine d_int ?_
  refine ⟨_, _, _, .tup _, rfl, rfl, ?_⟩
  refine d_nil ?_
  exact ⟨_, ⟨_, by omega, rfl, rfl⟩, hk⟩
theorem fm_some {α β : Type} (f : α → β) (l : List α) : l.filterMap (fun a => some (f a)) = l.map f := by
  induction l with
  | nil => rfl
  | cons a l ih => rw [List.filterMap_cons, List.map_cons, ih]
theorem fm_if {α : Type} (f : α → Int) (p : α → Prop) [DecidablePred p] (l : List α) : l.filterMap (fun a => if p a then some (PyData.int (f a)) else none) = ((l.filter fun a => decide (p a)).map f).map .int := by
  induction l with
  | nil => rfl
  | cons a l ih =>
    rw [List.filterMap_cons, List.filter_cons]
    by_cases h : p a
    · rw [if_pos h, if_pos (decide_eq_true h), List.map_cons, List.map_cons, ih]
    · rw [if_neg h, if_neg (by simpa using h), ih]
theorem lst_ints {μ : Mu} (ds : List PyData) (ns : List Int) (h : ds = ns.map .int) : LstA μ (lv ds) (ns.map iv) := by
  subst h
  have := LstA.lst (μ := μ) (ns.map .int)
  rw [List.map_map] at this
  exact this
theorem lst_bools {μ : Mu} (ds : List PyData) (ns : List Bool) (h : ds = ns.map .bool) : LstA μ (lv ds) (ns.map bv) := by
  subst h
  have := LstA.lst (μ := μ) (ns.map .bool)
  rw [List.map_map] at this
  exact this
/-! ### size_of, count_below -/
def fsSizeOf : FS := ret fun as r => ∃ h : List Int, h.length < 100000 ∧ as = [.d (stk h)] ∧ r = .int h.length
theorem sc_size_of : FnScope ["stack", "number", "count"] ["stack"] (C8.fnScope (top 15)) := C8.fnScope_by (by decide +kernel)
theorem sum_cast (l : List (Int × Nat)) : (l.map fun r => (r.2 : Int)).sum = (((l.map (·.2)).sum : Nat) : Int) := by
  induction l with
  | nil => rfl
  | cons a l ih => rw [List.map_cons, List.map_cons, List.sum_cons, List.sum_cons, ih]; omega
theorem cal_size_of (D : C8.Def K mg "size_of" (top 15) f fd) (b : Binds K fd ["stack"] []) (B : Bl mg) : C8.Cal P w K mg base 1 "size_of" (spF K fsSizeOf) [] := by
  refine calD D b sc_size_of (fun as μ k F ⟨_, ⟨n, _, h, _⟩, _⟩ => by rw [h]; rfl) fun cdv A outer s H E hr as μ k F ⟨r, ⟨g, hg, h, hr'⟩, hk⟩ => ?_
  subst h hr'
  have lg := runs_len g
  refine s_one (s_ret ?_)
  refine d_sum rfl rfl B.sum ?_
  refine d_lc2 1 2 [("number", 1), ("count", 2)] rfl sc_size_of.nd (blkOk_by (N := ["stack", "number", "count"]) (sc := C8.fnScope (top 15)) (by decide +kernel)) ?_
  refine i_tup ?_
  refine d_var 0 rfl ?_
  refine ⟨_, rfl, lcF_lcW ⟨trivial, _, runs g, fun r => .d (runD r), fun r => some (.int r.2), by rw [List.map_map]; rfl, by omega, fun r hr => ?_, ?_⟩⟩
  · refine ⟨_, rfl, rfl, fun h => absurd h (by decide), fun _ => ?_⟩
    intro s H0 C cl fp
    refine d_var 2 rfl ?_
    exact ⟨rfl, _, rfl, rfl⟩
  · refine ⟨(runs g).map fun r => (r.2 : Int), lst_ints _ _ (by rw [fm_some, List.map_map]; rfl), ki (by rw [sum_cast, sum_runs]) hk⟩
def fsCntB : FS := ret fun as r => ∃ (h : List Int) (x : Int), h.length < 100000 ∧ as = [.d (stk h), iv x] ∧ r = .int (cntB h x)
theorem sc_count_below : FnScope ["stack", "number", "own", "count"] ["stack", "number"] (C8.fnScope (top 16)) := C8.fnScope_by (by decide +kernel)
theorem cal_count_below (D : C8.Def K mg "count_below" (top 16) f fd) (b : Binds K fd ["stack", "number"] []) (B : Bl mg) : C8.Cal P w K mg base 1 "count_below" (spF K fsCntB) [] := by
  refine calD D b sc_count_below (fun as μ k F ⟨_, ⟨n, _, _, h, _⟩, _⟩ => by rw [h]; rfl) fun cdv A outer s H E hr as μ k F ⟨r, ⟨g, x, hg, h, hr'⟩, hk⟩ => ?_
  subst h hr'
  have lg := runs_len g
  refine s_one (s_ret ?_)
  refine d_sum rfl rfl B.sum ?_
  refine d_lc2 2 3 [("own", 2), ("count", 3)] rfl sc_count_below.nd (blkOk_by (N := ["stack", "number", "own", "count"]) (sc := C8.fnScope (top 16)) (by decide +kernel)) ?_
  refine i_tup ?_
  refine d_var 0 rfl ?_
  refine ⟨_, rfl, lcF_lcW ⟨trivial, _, runs g, fun r => .d (runD r), fun r => if r.1 < x then some (.int r.2) else none, by rw [List.map_map]; rfl, by omega, fun r hr => ?_, ?_⟩⟩
  · refine ⟨_, rfl, ?_⟩
    intro s H0 C cl fp
    refine d_tcmp op_lt rfl ?_
    refine d_var 2 rfl ?_
    refine d_var 1 rfl ?_
    refine dr_c ⟨_, _, rfl, rfl, _, rfl, rfl, fun h => if_neg (of_decide_eq_false h), fun h => ?_⟩
    intro s H0 C cl fp
    refine d_var 3 rfl ?_
    exact ⟨rfl, _, if_pos (of_decide_eq_true h), rfl⟩
  · refine ⟨((runs g).filter fun r => decide (r.1 < x)).map fun r => (r.2 : Int), lst_ints _ _ (fm_if (fun r => (r.2 : Int)) _ (runs g)), ki (by rw [sum_cast, sum_below]) hk⟩
/-! ### popped -/
end
end K87
end

section
set_option Elab.async false
set_option linter.all false
set_option maxRecDepth 100000
set_option maxHeartbeats 1100000
set_option autoImplicit false
namespace K87
open PySem L2 K87M
theorem mdel_mset {μ : Mu} {p : Addr} {o : RO} (h : μ p = none) : mdel (mset μ p o) p = μ := by
  funext a
  unfold mdel mset
  by_cases e : a = p
  · rw [if_pos e, e, h]
  · rw [if_neg e, if_neg e]
theorem d_drop {X : Cx} {E : XK} {F : KF} {ρ : Env'} {μ : Mu} {k : KV'} {e : Expr} (p : Addr) (h : dE X E F e ρ μ fun a μ' => k a (mdel μ' p)) : dE X E F e ρ μ k := fun σ G H sr m pf Q po =>
  h σ G H sr m pf Q fun v a G' μ' H' h1 s1 m1 r1 => po v a G' (mdel μ' p) H' h1 (s1.trans (Stp.drop p)) (m1.drop p) r1
theorem runs_ne {h : List Int} (e : 0 < h.length) : ∃ a x m, runs h = a ++ [(x, m)] := by
  cases q : runs h with
  | nil => have := runs_eq_nil q; subst this; cases e
  | cons r t =>
    refine ⟨(r :: t).dropLast, ((r :: t).getLast (by simp)).1, ((r :: t).getLast (by simp)).2, ?_⟩
    exact (List.dropLast_concat_getLast (by simp)).symm
section
variable {P : Program} {w : World} {K : PySem.W.Frag} {mg : Str → Option Value} {base : Heap} {f : Addr} {fd : FuncData}
def fsPopped : FS := ret fun as r => ∃ (h : List Int) (c : Nat), h.length < 100000 ∧ c ≤ h.length ∧ as = [.d (stk h), iv c] ∧ r = stk (h.take (h.length - c))
def rowsA (rs : List (Int × Nat)) : List AV := rs.map fun r => .d (runD r)
theorem rowsA_d (rs : List (Int × Nat)) : rowsA rs = (rs.map runD).map .d := by unfold rowsA; rw [List.map_map]; rfl
theorem sc_popped : FnScope ["stack", "count", "rows", "number", "many"] ["stack", "count"] (C8.fnScope (top 17)) := C8.fnScope_by (by decide +kernel)
theorem cal_popped (D : C8.Def K mg "popped" (top 17) f fd) (b : Binds K fd ["stack", "count"] []) (B : Bl mg) : C8.Cal P w K mg base 1 "popped" (spF K fsPopped) [] := by
  refine calD D b sc_popped (fun as μ k F ⟨_, ⟨n, _, _, _, h, _⟩, _⟩ => by rw [h]; rfl) fun cdv A outer s H E hr as μ k F ⟨r, ⟨g, c, hg, hc, h, hr'⟩, hk⟩ => ?_
  subst h hr'
  refine s_cons ?_
  refine s_set 2 ?_ sc_popped.nd -- rows
  refine d_list rfl B.list ?_
  refine d_var 0 rfl ?_ -- stack
  refine ⟨_, .tup _, .inr fun p hp => ?_⟩
  refine s_cons ?_
  refine s_while PassesOwn.never (fun n ρ' μ' => ∃ x y, n ≤ c ∧ ρ' = [some (.d (stk g)), some (iv n), some (rv p), x, y] ∧ μ' = mset μ p (.lst (rowsA (runs (g.take (g.length - (c - n))))))) c ⟨none, none, Nat.le_refl _, rfl, by rw [Nat.sub_self, Nat.sub_zero, List.take_length, rowsA_d]⟩ fun n ρ μ h => ?_
  obtain ⟨x, y, hn, rfl, rfl⟩ := h
  refine d_tcmp op_gt rfl ?_
  refine d_var 1 rfl ?_ -- count
  refine d_int ?_
  refine dr_c ⟨_, _, rfl, rfl, _, rfl, ?_⟩
  refine ⟨fun h => ?_, fun h => ?_⟩
  · have h0 : (0 : Int) < n := of_decide_eq_true h
    generalize hh : g.take (g.length - (c - n)) = h' at *
    have hl : h'.length = g.length - (c - n) := by rw [← hh, List.length_take]; omega
    obtain ⟨a, z, m, e⟩ := runs_ne (h := h') (by omega)
    obtain ⟨_, _, m1, m2, t1, t2⟩ := runs_pop e
    have tk : ∀ j, j ≤ n → h'.take (h'.length - j) = g.take (g.length - (c - (n - j))) := fun j hj => by
      rw [hl, ← hh, List.take_take]
      congr 1
      omega
    have eA : rowsA (runs h') = rowsA a ++ [.d (runD (z, m))] := by rw [e]; unfold rowsA; rw [List.map_append]; rfl
    refine s_cons ?_
    refine s_asg ?_
    refine d_pop ?_
    refine d_var 2 rfl ?_ -- rows
    refine ⟨p, rowsA a, .d (runD (z, m)), rfl, by rw [mset_same, eA], ?_⟩
    refine g_tup rfl ⟨_, rfl, rfl, ?_⟩
    refine gs_cons (g_name 3 ?_ sc_popped.nd)
    refine gs_cons (g_name 4 ?_ sc_popped.nd)
    refine gs_nil ?_
    rw [mset_mset]
    refine s_cons ?_
    refine s_if ?_
    refine d_tcmp op_gt rfl ?_
    refine d_var 4 rfl ?_ -- many
    refine d_var 1 rfl ?_ -- count
    refine dr_c ⟨_, _, rfl, rfl, _, rfl, ?_⟩
    refine ⟨fun h => ?_, fun h => ?_⟩
    · have h1 : (n : Int) < (m : Nat) := of_decide_eq_true h
      refine s_one ?_
      refine s_expr ?_
      refine d_append ?_
      refine d_var 2 rfl ?_ -- rows
      refine ⟨p, _, rfl, mset_same, ?_⟩
      refine d_tup ?_
      refine d_cons ?_
      refine d_var 3 rfl ?_ -- number
      refine d_cons ?_
      refine d_sub ?_
      refine d_var 4 rfl ?_ -- many
      refine d_var 1 rfl ?_ -- count
      refine ⟨_, _, rfl, rfl, ?_⟩
      refine d_nil ?_
      refine ⟨[.int z, .int _], rfl, by simp, ?_⟩
      refine ⟨_, mset_same, ?_, ?_⟩
      · have := runs_len h'
        rw [e, List.length_append, List.length_singleton] at this
        unfold rowsA
        rw [List.length_map]
        omega
      refine s_one ?_
      refine s_subA 1 rfl ?_ sc_popped.nd
      refine d_min2 rfl rfl B.min ?_
      refine d_var 4 rfl ?_ -- many
      refine d_var 1 rfl ?_ -- count
      refine ⟨_, _, rfl, rfl, ?_⟩
      refine ⟨_, rfl, ?_⟩
      have e1 : (n : Int) - (if (n : Int) < (m : Nat) then (n : Int) else (m : Nat)) = ((0 : Nat) : Int) := by rw [if_pos h1]; omega
      refine ⟨0, by omega, some (iv z), some (iv m), Nat.zero_le _, ?_, ?_⟩
      · rw [← e1]; rfl
      · rw [mset_mset]
        have := t2 n (by omega)
        rw [tk n (Nat.le_refl _), Nat.sub_self] at this
        rw [this]
        have e2 : ((m : Int) - (n : Int)) = ((m - n : Nat) : Int) := by omega
        unfold rowsA
        rw [List.map_append]
        show _ = mset μ p (.lst (_ ++ [.d (runD (z, m - n))]))
        unfold runD
        rw [e2]
    · have h1 : ¬ (n : Int) < (m : Nat) := of_decide_eq_false h
      refine s_nil ?_
      refine s_one ?_
      refine s_subA 1 rfl ?_ sc_popped.nd
      refine d_min2 rfl rfl B.min ?_
      refine d_var 4 rfl ?_ -- many
      refine d_var 1 rfl ?_ -- count
      refine ⟨_, _, rfl, rfl, ?_⟩
      refine ⟨_, rfl, ?_⟩
      have e1 : (n : Int) - (if (n : Int) < (m : Nat) then (n : Int) else (m : Nat)) = ((n - m : Nat) : Int) := by rw [if_neg h1]; omega
      refine ⟨n - m, by omega, some (iv z), some (iv m), by omega, ?_, ?_⟩
      · rw [← e1]; rfl
      · rw [tk m (by omega)] at t1
        rw [t1]
  · have h0 : ¬ (0 : Int) < n := of_decide_eq_false h
    have : n = 0 := by omega
    subst this
    refine s_one ?_
    refine s_ret (d_drop p ?_)
    refine d_tuple rfl B.tuple ?_
    refine d_var 2 rfl ?_ -- rows
    refine ⟨(runs (g.take (g.length - c))).map runD, .own p _ (by rw [mset_same, rowsA_d]; rfl), ?_⟩
    rw [mdel_mset hp]
    exact hk
end
end K87
end

section
set_option Elab.async false
set_option linter.all false
set_option maxRecDepth 100000
set_option maxHeartbeats 1100000
set_option autoImplicit false
namespace K87
open PySem L2 K87M
theorem atI_last {α : Type} (a : List α) (x : α) : atI (a ++ [x]) (-1) = some x := by
  have e : (-1 + ((a.length : Int) + 1)).toNat = a.length := by omega
  unfold atI ixN
  simp
  rw [if_pos (by omega), e]
  simp
theorem atI_0 {α : Type} (a : List α) (x : α) : atI (x :: a) 0 = some x := by
  unfold atI ixN
  simp
theorem cut_init {α : Type} (a : List α) (x : α) : cutA (a ++ [x]) none (some (-1)) = a := by
  have e : (-1 + ((a.length : Int) + 1)).toNat = a.length := by omega
  unfold cutA HT.sIx
  simp
  rw [e]
  simp
theorem cut_tail {α : Type} (a : List α) (x : α) : cutA (x :: a) (some 1) none = a := by
  unfold cutA HT.sIx
  simp
section
variable {P : Program} {w : World} {K : PySem.W.Frag} {mg : Str → Option Value} {base : Heap} {f : Addr} {fd : FuncData}
def fsJoinedRuns : FS := ret fun as r => ∃ (a b : List Int), a.length + b.length < 100000 ∧ as = [.d (stk a), .d (stk b)] ∧ r = stk (a ++ b)
theorem rns_ne {rs : List (Int × Nat)} (h : rs ≠ []) : rnsD rs ≠ .tuple [] := fun e => by
  unfold rnsD at e
  injection e with e
  exact h (List.map_eq_nil_iff.mp e)
theorem sc_joined_runs : FnScope ["stack", "other"] ["stack", "other"] (C8.fnScope (top 18)) := C8.fnScope_by (by decide +kernel)
theorem cal_joined_runs (D : C8.Def K mg "joined_runs" (top 18) f fd) (b : Binds K fd ["stack", "other"] []) (B : Bl mg) : C8.Cal P w K mg base 1 "joined_runs" (spF K fsJoinedRuns) [] := by
  refine calD D b sc_joined_runs (fun as μ k F ⟨_, ⟨n, _, _, h, _⟩, _⟩ => by rw [h]; rfl) fun cdv A outer s H E hr as μ k F ⟨r, ⟨a, b, hl, h, hr'⟩, hk⟩ => ?_
  subst h hr'
  have la := runs_len a
  have lb := runs_len b
  refine s_cons ?_
  refine s_if (dT.mono (kT := fun t μ' => μ' = μ ∧ (t = true → ∃ sa x c d tb, runs a = sa ++ [(x, c)] ∧ runs b = (x, d) :: tb) ∧ (t = false → runs (a ++ b) = runs a ++ runs b)) ?_ fun t μ' h => ?_)
  · refine d_tW ?_
    refine d_wand ?_
    refine d_tcmp (op_neD hr.units) rfl ?_
    refine d_var 0 rfl ?_ -- stack
    refine d_tup ?_
    refine d_nil ?_
    refine ⟨[], rfl, by simp, ?_⟩
    refine dr_neG ⟨_, _, 2, 1, rfl, rfl, gd_rns 0 _, .tup _ _ (fun _ h => nomatch h), by decide, by decide, fun h => ⟨_, rfl, ?_⟩, fun h => ⟨_, rfl, ?_⟩⟩
    · refine ⟨fun h => absurd h (by decide), fun _ => ⟨rfl, fun h => absurd h (by decide), fun _ => ?_⟩⟩
      have : runs a = [] := Classical.byContradiction fun z => rns_ne z h
      rw [runs_eq_nil this]; rfl
    refine ⟨fun _ => ?_, fun h => absurd h (by decide)⟩
    have ha : runs a ≠ [] := fun z => h (by show rnsD _ = _; rw [z]; rfl)
    obtain ⟨sa, x, c, ea⟩ := runs_ne (h := a) (by cases a with | nil => exact absurd rfl ha | cons _ _ => exact Nat.succ_pos _)
    refine d_wand ?_
    refine d_tcmp (op_neD hr.units) rfl ?_
    refine d_var 1 rfl ?_ -- other
    refine d_tup ?_
    refine d_nil ?_
    refine ⟨[], rfl, by simp, ?_⟩
    refine dr_neG ⟨_, _, 2, 1, rfl, rfl, gd_rns 0 _, .tup _ _ (fun _ h => nomatch h), by decide, by decide, fun h => ⟨_, rfl, ?_⟩, fun h => ⟨_, rfl, ?_⟩⟩
    · refine ⟨fun h => absurd h (by decide), fun _ => ⟨rfl, fun h => absurd h (by decide), fun _ => ?_⟩⟩
      have : runs b = [] := Classical.byContradiction fun z => rns_ne z h
      rw [runs_eq_nil this, List.append_nil]; show _ = _ ++ []; rw [List.append_nil]
    refine ⟨fun _ => ?_, fun h => absurd h (by decide)⟩
    have hb : runs b ≠ [] := fun z => h (by show rnsD _ = _; rw [z]; rfl)
    obtain ⟨⟨y, d⟩, tb, eb⟩ := List.exists_cons_of_ne_nil hb
    refine d_wand1 ?_
    refine d_tcmp (op_eqD hr.units) rfl ?_
    refine d_ix ?_
    refine d_ix ?_
    refine d_var 0 rfl ?_ -- stack
    refine d_neg ?_
    refine d_int ?_
    refine ⟨_, rfl, ?_⟩
    refine ⟨_, _, .d (runD (x, c)), .tup _, rfl, ?_, ?_⟩
    · rw [ea, List.map_append, List.map_append]; exact atI_last _ _
    refine d_int ?_
    refine ⟨_, _, iv x, .tup _, rfl, rfl, ?_⟩
    refine d_ix ?_
    refine d_ix ?_
    refine d_var 1 rfl ?_ -- other
    refine d_int ?_
    refine ⟨_, _, .d (runD (y, d)), .tup _, rfl, ?_, ?_⟩
    · rw [eb]; exact atI_0 _ _
    refine d_int ?_
    refine ⟨_, _, iv y, .tup _, rfl, rfl, ?_⟩
    refine dr_eqG ⟨_, _, 0, 0, rfl, rfl, .int _ _, .int _ _, by decide, by decide, fun h => ⟨_, rfl, ?_⟩, fun h => ⟨_, rfl, ?_⟩⟩
    · injection h with h
      subst h
      exact ⟨rfl, fun _ => ⟨_, _, _, _, _, ea, eb⟩, fun h => absurd h (by decide)⟩
    · refine ⟨rfl, fun h => absurd h (by decide), fun _ => ?_⟩
      have := runs_apart (runs a) (runs b) (canon_runs a) (canon_runs b) fun u v hu hv => ?_
      · rw [flat_runs, flat_runs] at this
        exact this
      · rw [ea] at hu
        rw [eb] at hv
        simp at hu hv
        rw [← hu, ← hv]
        intro z
        exact h (by show PyData.int x = .int y; rw [show x = y from z])
  obtain ⟨rfl, h1, h2⟩ := h
  refine ⟨fun ht => ?_, fun ht => ?_⟩
  · obtain ⟨sa, x, c, d, tb, ea, eb⟩ := h1 ht
    have lea := congrArg List.length ea
    have leb := congrArg List.length eb
    rw [List.length_append, List.length_singleton] at lea
    rw [List.length_cons] at leb
    refine s_one ?_
    refine s_ret ?_
    refine d_tup ?_
    refine d_star ?_
    refine d_slT ?_
    refine d_var 0 rfl ?_ -- stack
    refine d_onone ?_
    refine d_osome ?_
    refine d_neg ?_
    refine d_int ?_
    refine ⟨_, rfl, ?_⟩
    refine ⟨_, rfl, ?_⟩
    refine ⟨_, rfl, ?_⟩
    refine ⟨_, .tup _, ?_⟩
    refine d_cons ?_
    refine d_tup ?_
    refine d_cons ?_
    refine d_ix ?_
    refine d_ix ?_
    refine d_var 0 rfl ?_ -- stack
    refine d_neg ?_
    refine d_int ?_
    refine ⟨_, rfl, ?_⟩
    refine ⟨_, _, .d (runD (x, c)), .tup _, rfl, ?_, ?_⟩
    · rw [ea, List.map_append, List.map_append]; exact atI_last _ _
    refine d_int ?_
    refine ⟨_, _, iv x, .tup _, rfl, rfl, ?_⟩
    refine d_cons ?_
    refine d_add ?_
    refine d_ix ?_
    refine d_ix ?_
    refine d_var 0 rfl ?_ -- stack
    refine d_neg ?_
    refine d_int ?_
    refine ⟨_, rfl, ?_⟩
    refine ⟨_, _, .d (runD (x, c)), .tup _, rfl, ?_, ?_⟩
    · rw [ea, List.map_append, List.map_append]; exact atI_last _ _
    refine d_int ?_
    refine ⟨_, _, iv c, .tup _, rfl, rfl, ?_⟩
    refine d_ix ?_
    refine d_ix ?_
    refine d_var 1 rfl ?_ -- other
    refine d_int ?_
    refine ⟨_, _, .d (runD (x, d)), .tup _, rfl, ?_, ?_⟩
    · rw [eb]; exact atI_0 _ _
    refine d_int ?_
    refine ⟨_, _, iv d, .tup _, rfl, rfl, ?_⟩
    refine ⟨_, _, rfl, rfl, ?_⟩
    refine d_nil ?_
    refine ⟨[.int x, .int _], rfl, by simp, ?_⟩
    refine d_star ?_
    refine d_slT ?_
    refine d_var 1 rfl ?_ -- other
    refine d_osome ?_
    refine d_int ?_
    refine ⟨_, rfl, ?_⟩
    refine d_onone ?_
    refine ⟨_, rfl, ?_⟩
    refine ⟨_, .tup _, ?_⟩
    refine d_nil ?_
    have ca : cutA ((runs a).map runD) none (some (-1)) = sa.map runD := by rw [ea, List.map_append]; exact cut_init _ _
    have cb : cutA ((runs b).map runD) (some 1) none = tb.map runD := by rw [eb]; exact cut_tail _ _
    rw [ca, cb]
    refine ⟨sa.map runD ++ .tuple [.int x, .int ((c : Int) + (d : Int))] :: tb.map runD, by simp, by simp; omega, ?_⟩
    have := runs_same sa tb x c d (by rw [← ea]; exact canon_runs a) (by rw [← eb]; exact canon_runs b)
    rw [← ea, ← eb, flat_runs, flat_runs] at this
    refine ktt ?_ hk
    rw [this, List.map_append, List.map_cons]
    congr 2
  · refine s_nil ?_
    refine s_one ?_
    refine s_ret ?_
    refine d_tup ?_
    refine d_star ?_
    refine d_var 0 rfl ?_ -- stack
    refine ⟨_, .tup _, ?_⟩
    refine d_star ?_
    refine d_var 1 rfl ?_ -- other
    refine ⟨_, .tup _, ?_⟩
    refine d_nil ?_
    refine ⟨(runs a ++ runs b).map runD, by simp, by simp; omega, ?_⟩
    rw [← h2 ht]
    exact hk
def fsPushed : FS := ret fun as r => ∃ (h : List Int) (x : Int) (c : Nat), Dec h ∧ h.length + c < 100000 ∧ 1 ≤ c ∧ as = [.d (stk h), iv x, iv c] ∧ r = stk (up h x ++ List.replicate c x)
theorem sc_pushed : FnScope ["stack", "number", "count", "rest"] ["stack", "number", "count"] (C8.fnScope (top 19)) := C8.fnScope_by (by decide +kernel)
theorem runs_one (x : Int) (c : Nat) (h : 1 ≤ c) : runs (List.replicate c x) = [(x, c)] := runs_of (show 1 ≤ c from h) (by simp [flat])
theorem cal_pushed (D : C8.Def K mg "pushed" (top 19) f fd) (b : Binds K fd ["stack", "number", "count"] []) (B : Bl mg) (c_popped : C8.Cal P w K mg base 1 "popped" (spF K fsPopped) []) (c_count_below : C8.Cal P w K mg base 1 "count_below" (spF K fsCntB) []) (c_joined_runs : C8.Cal P w K mg base 1 "joined_runs" (spF K fsJoinedRuns) []) : C8.Cal P w K mg base 2 "pushed" (spF K fsPushed) [] := by
  refine calD D b sc_pushed (fun as μ k F ⟨_, ⟨n, _, _, _, _, _, h, _⟩, _⟩ => by rw [h]; rfl) fun cdv A outer s H E hr as μ k F ⟨r, ⟨g, x, c, dg, hg, hc, h, hr'⟩, hk⟩ => ?_
  subst h hr'
  have cle := cntB_le g x
  refine s_cons ?_
  refine s_set 3 ?_ sc_pushed.nd -- rest
  refine d_call c_popped hr (by decide) rfl ?_
  refine d_cons ?_
  refine d_var 0 rfl ?_ -- stack
  refine d_cons ?_
  refine d_call c_count_below hr (by decide) rfl ?_
  refine d_cons ?_
  refine d_var 0 rfl ?_ -- stack
  refine d_cons ?_
  refine d_var 1 rfl ?_ -- number
  refine d_nil ?_
  refine ⟨_, ⟨g, x, by omega, rfl, rfl⟩, ?_⟩ -- count_below
  refine d_nil ?_
  refine ⟨_, ⟨g, cntB g x, by omega, cle, rfl, rfl⟩, ?_⟩ -- popped
  rw [← up_take dg]
  refine s_one ?_
  refine s_ret ?_
  refine d_call c_joined_runs hr (by decide) rfl ?_
  refine d_cons ?_
  refine d_var 3 rfl ?_ -- rest
  refine d_cons ?_
  refine d_tup ?_
  refine d_cons ?_
  refine d_tup ?_
  refine d_cons ?_
  refine d_var 1 rfl ?_ -- number
  refine d_cons ?_
  refine d_var 2 rfl ?_ -- count
  refine d_nil ?_
  refine ⟨[.int x, .int c], rfl, by simp, ?_⟩
  refine d_nil ?_
  refine ⟨[runD (x, c)], rfl, by simp, ?_⟩
  refine d_nil ?_
  refine ⟨_, ⟨up g x, List.replicate c x, ?_, ?_, rfl⟩, hk⟩ -- joined_runs
  · have := List.length_filter_le (fun y => decide (x ≤ y)) g
    rw [List.length_replicate]
    show (g.filter _).length + c < _
    omega
  · rw [show stk (List.replicate c x) = rnsD [(x, c)] by show rnsD (runs _) = _; rw [runs_one x c hc]]
    rfl
end
end K87
end

section
set_option Elab.async false
set_option linter.all false
set_option maxRecDepth 100000
set_option maxHeartbeats 2100000
set_option autoImplicit false
namespace K87
open PySem PySem.Spec PyProof.Rows L2 RZ
theorem zipK_type (a b c : Value) : checkTypeCall "zip" ⟨[a, b], [(Str.ofString "strict", c)]⟩ = pure () := by kernel_rfl
theorem zipK_new (a b c : Value) : checkBuiltinCall "zip.__new__" ⟨[.type "zip", a, b], [(Str.ofString "strict", c)]⟩ = pure () := by kernel_rfl
theorem zipK_init (obj a b c : Value) : argsOk "object.__init__" ⟨[obj, a, b], [(Str.ofString "strict", c)]⟩ := by unfold argsOk; kernel_rfl
theorem zipK_meets (l1 l2 : Addr) (xs ys : Array Value) :
    Meets (Builtin.«zip.__new__» ⟨[.type "zip", .ref l1, .ref l2], [(Str.ofString "strict", .bool false)]⟩) (fun _ R sh => sh.heap.IsTuple l1 xs ∧ sh.heap.IsTuple l2 ys ∧
      R (.ok (.ret (.ref (zipTH4 sh.heap l1 l2).objs.size))) { sh with heap := zipTH5 sh.heap l1 l2 }) :=
  .of_wp fun prog w A R sh h => by
    obtain ⟨hp, g, d, tk, os⟩ := sh; obtain ⟨hl1, hl2, h⟩ := h
    have hsub := sub_zip
    have q1 : Heap.IsTuple (Shared.heap ⟨hp, g, d, tk, os⟩) l1 xs := hl1
    have q2 : Heap.IsTuple (Shared.heap ⟨hp.push { cls := .type "tuple_iterator", data := .fields #[.ref l1, .int 0 0] }, g, d, tk, os⟩) l2 ys := Heap.IsTuple.push hl2 _
    wp_walk using wpAny_pyIter_tuple q1, wpAny_pyIter_tuple q2
    exact ⟨_, rfl, h⟩
end K87
end

section
set_option Elab.async false
set_option linter.all false
set_option maxRecDepth 100000
set_option maxHeartbeats 2100000
set_option autoImplicit false
namespace K87
open PySem PySem.Spec PyProof.Rows L2 RZ
section
variable {prog : Program} {w : World} {A : Around} {E : Value → Shared → Prop} {sh : Shared}
theorem call_zipK {l1 l2 : Addr} {xs ys : Array Value} {Q : Value → Shared → Prop} (hl1 : sh.heap.IsTuple l1 xs) (hl2 : sh.heap.IsTuple l2 ys)
    (h : ∀ h', IsZip h' (sh.heap.objs.size + 4) (sh.heap.objs.size + 2) (sh.heap.objs.size + 3) .none → IsPair h' (sh.heap.objs.size + 2) (.ref sh.heap.objs.size) (.ref (sh.heap.objs.size + 1)) →
      IsPair h' (sh.heap.objs.size + 3) .none .none → h'.IsTupleIter sh.heap.objs.size l1 0 → h'.IsTupleIter (sh.heap.objs.size + 1) l2 0 → h'.objs.size = sh.heap.objs.size + 5 →
      (∀ cv o, sh.heap.get? cv = some o → h'.get? cv = some o) → Q (.ref (sh.heap.objs.size + 4)) { sh with heap := h' }) :
    wpAny (model prog w) A (call (.type "zip") [.ref l1, .ref l2] [(Str.ofString "strict", .bool false)]) Q E sh := by
  refine callType_newKw F.called_zip (by decide) (zipK_type _ _ _) (zipK_new _ _ _) (fun obj => zipK_init obj _ _ _) F.entry_zip_new (zipK_meets l1 l2 xs ys) ⟨hl1, hl2, ?_⟩
  have z1 : (zipTH1 sh.heap l1).objs.size = sh.heap.objs.size + 1 := Heap.size_push ..
  have z2 : (zipTH2 sh.heap l1 l2).objs.size = sh.heap.objs.size + 2 := by rw [Heap.size_push, z1]
  have z3 : (zipTH3 sh.heap l1 l2).objs.size = sh.heap.objs.size + 3 := by rw [Heap.size_push, z2]
  have z4 : (zipTH4 sh.heap l1 l2).objs.size = sh.heap.objs.size + 4 := by rw [Heap.size_push, z3]
  have z5 : (zipTH5 sh.heap l1 l2).objs.size = sh.heap.objs.size + 5 := by rw [Heap.size_push, z4]
  have g5 : (zipTH5 sh.heap l1 l2).get? (zipTH4 sh.heap l1 l2).objs.size = some _ := Heap.get?_push_size _ rfl
  have g4 : (zipTH5 sh.heap l1 l2).get? (zipTH3 sh.heap l1 l2).objs.size = some _ := Heap.get?_push_of_some _ (Heap.get?_push_size _ rfl)
  have g3 : (zipTH5 sh.heap l1 l2).get? (zipTH2 sh.heap l1 l2).objs.size = some _ := Heap.get?_push_of_some _ (Heap.get?_push_of_some _ (Heap.get?_push_size _ rfl))
  have g2 : (zipTH5 sh.heap l1 l2).get? (zipTH1 sh.heap l1).objs.size = some _ := Heap.get?_push_of_some _ (Heap.get?_push_of_some _ (Heap.get?_push_of_some _ (Heap.get?_push_size _ rfl)))
  have g1 : (zipTH5 sh.heap l1 l2).get? sh.heap.objs.size = some _ := Heap.get?_push_of_some _ (Heap.get?_push_of_some _ (Heap.get?_push_of_some _ (Heap.get?_push_of_some _ (Heap.get?_push_size _ rfl))))
  show _ ∧ _
  rw [z2, z3, z4] at g5
  rw [z1, z2] at g3
  rw [z3] at g4
  rw [z1] at g2
  rw [z4]
  exact ⟨⟨_, g5, rfl⟩, h _ g5 g3 g4 ⟨_, g1, rfl, rfl⟩ ⟨_, g2, rfl, rfl⟩ z5 fun cv o xv =>
    Heap.get?_push_of_some _ (Heap.get?_push_of_some _ (Heap.get?_push_of_some _ (Heap.get?_push_of_some _ (Heap.get?_push_of_some _ xv))))⟩
end
section
variable {M : Model} {A : Around} {E : Value → Shared → Prop} {sh : Shared} {ev : Env}
theorem callWith_typeK {pos : Pos} {T : String} {args : List (Bool × Sem Value)} {keywords : List (Option Str × Sem Value)} {Q : Value → Shared → Prop} (hplain : args.any (·.1) = false) (hkw : keywords.any (·.1.isNone) = false) (h : wpAny M A (evalArgs (.type T) true args keywords) (fun a t₁ => wpAny M A (call (.type T) ([] ++ a.pos) a.kw) Q E t₁) E sh) : wpAny M A (callWith pos (.type T) [] args keywords) Q E sh := by
  unfold callWith
  refine wpAny_bind (wpAny_holding (wpAny_mono h (fun a t₁ g₁ => wpAny_bind (wpAny_standAt ?_)) fun _ _ xv => xv))
  (simp only [hplain, hkw, Bool.or_false]); refine wpAny_bind (wpAny_pure ?_)
  exact wpAny_bind (wpAny_mono g₁ (fun r s₂ hr => wpAny_bind (wpAny_holding (wpAny_point (wpAny_pure hr)))) fun _ _ xv => xv)
theorem callWith_typeKw {pos : Pos} {T : String} {e : Expr} {tail : List Expr} {kws : List Keyword} {Q : Value → Shared → Prop}
    (h : wpAny M A (spliced (backTo pos (starEach (e :: tail) ev))) (fun vs t₁ => wpAny M A (evalAll ((backToKw pos (keywordEach kws ev)).map (·.2)))
      (fun kvs s₂ => wpAny M A (call (.type T) vs (((backToKw pos (keywordEach kws ev)).filterMap (·.1)).zip kvs)) Q E s₂) E t₁) E sh)
    (he : backTo pos (starEach (e :: tail) ev) = (false, eval e ev) :: backTo pos (starEach tail ev) := by rfl)
    (hplain : (backTo pos (starEach (e :: tail) ev)).any (·.1) = false := by rfl)
    (hall : (backToKw pos (keywordEach kws ev)).all (·.1.isSome) = true := by rfl)
    (hkw : (backToKw pos (keywordEach kws ev)).any (·.1.isNone) = false := by rfl) :
    wpAny M A (callWith pos (.type T) [] (backTo pos (starEach (e :: tail) ev)) (backToKw pos (keywordEach kws ev))) Q E sh := by
  refine callWith_typeK hplain hkw ?_
  rw [he] at h ⊢
  exact evalArgs_kwB hall h
end
def iZipK (K : PySem.W.Frag) (ta : TA) : TI := fun σ H R => ta σ H fun vs H1 => ∃ a b xs ys, vs = [.ref a, .ref b] ∧ SqT K H1 a xs ∧ SqT K H1 b ys ∧ R (ItzT K a b) H1
theorem pi_zipK {X : Cx} {e e2 : Expr} {ta : TA} {p pos tpos p3 p4 : Pos} {elts : List Expr} {kk j : Nat} (hg : Gl X "zip") (hm : X.mg "zip" = none) (ha : PA X [e, e2] ta)
    (hs : backTo pos (starEach [e, e2] X.env) = (false, eval e X.env) :: backTo pos (starEach [e2] X.env) := by rfl) (hpl : (backTo pos (starEach [e, e2] X.env)).any (·.1) = false := by rfl) :
    PI X (.Tuple elts kk tpos) (.Call (.Name "zip" p) [e, e2] [⟨some "strict", .Constant (.bool false) j p3, p4⟩] pos) (iZipK X.K ta) := by
  refine ⟨fun pins sh σ H R I h => ?_⟩
  refine wpAny_Call_Name_kw (ld_blt I hg hm PyProof.Rows.boot_zip (callWith_typeKw (thn (ha.run pos pins sh σ H _ I h) fun us s1 ⟨vs, H1, I1, r1, q1⟩ => ?_) hs hpl))
  refine kws_cons ((pe_bl (X := X) (b := false) (j := j) (pos := p3)).run pins s1 σ H1 (fun v H2 => v = .bl false ∧ H2 = H1) I1 ⟨rfl, rfl⟩ |> fun zz => thn zz fun u s2 ⟨v, H2, I2, r2, ev, eh⟩ => ?_)
  subst ev eh
  cases r2
  refine kws_nil ?_
  (obtain ⟨a, b, xs, ys, ex, hqx, hqy, q⟩ := q1); subst ex
  cases r1 with
  | cons r rr =>
    cases rr with
    | cons r' rr =>
      cases rr
      cases r
      cases r'
      have fresh5 : ∀ cv, cv ∈ [s2.heap.objs.size + 4, s2.heap.objs.size + 2, s2.heap.objs.size + 3, s2.heap.objs.size, s2.heap.objs.size + 1] → FpOk X pins H2 cv := fun cv hcm => by
        have e' : cv = s2.heap.objs.size + 4 ∨ cv = s2.heap.objs.size + 2 ∨ cv = s2.heap.objs.size + 3 ∨ cv = s2.heap.objs.size ∨ cv = s2.heap.objs.size + 1 := by simpa using hcm
        have hlb : s2.heap.objs.size ≤ cv := by
          rcases e' with zz | zz | zz | zz | zz
          · rw [zz]; exact Nat.le_add_right _ _
          · rw [zz]; exact Nat.le_add_right _ _
          · rw [zz]; exact Nat.le_add_right _ _
          · rw [zz]; exact Nat.le_refl _
          · rw [zz]; exact Nat.le_add_right _ _
        exact I2.fpOk hlb (I2.hok.fresh hlb)
      obtain ⟨its, rv, p1, _⟩ := I2.tuple hqx
      obtain ⟨its2, rv2, p2, _⟩ := I2.tuple hqy
      obtain ⟨o1, ho1, _⟩ := id p1
      obtain ⟨o2, ho2, _⟩ := id p2
      refine call_zipK (show s2.heap.IsTuple a its.toArray from p1) (show s2.heap.IsTuple b its2.toArray from p2) fun h' hz hTI hTO h1 h2 hsz hk => wpAny_pyIter_zip hz ?_
      have I3 : Inv X pins σ H2 { s2 with heap := h' } := I2.kept (t' := s2.toks) hk
      exact ⟨s2.heap.objs.size + 4, [s2.heap.objs.size + 4, s2.heap.objs.size + 2, s2.heap.objs.size + 3, s2.heap.objs.size, s2.heap.objs.size + 1], _, _, H2, rfl, I3, turn_zipT (PySem.W.ktu_apart s2.heap.objs.size a b (Heap.lt_size ho1) (Heap.lt_size ho2)), ⟨hz, hTI, ⟨_, _, hTO⟩, h1, h2⟩, fresh5, q⟩
/-- zip(a, b, strict=False) over data -/
def zipD (xs ys : List PyData) : List PyData := (xs.zip ys).map fun p => .tuple [p.1, p.2]
theorem i_zipK {X : Cx} {E : XK} {F : KF} {ρ : Env'} {μ : Mu} {kI : List AV → (Mu → Prop) → Mu → Prop} {e e2 : Expr} {p pos tpos p3 p4 : Pos} {elts : List Expr} {kk j : Nat} (hg : Gl X "zip") (hm : X.mg "zip" = none)
    (h : dA X E F [e, e2] ρ μ fun as μ1 => ∃ xs ys, as = [tv xs, tv ys] ∧ kI ((zipD xs ys).map .d) (fun _ => True) μ1)
    (hs : backTo pos (starEach [e, e2] X.env) = (false, eval e X.env) :: backTo pos (starEach [e2] X.env) := by rfl) (hpl : (backTo pos (starEach [e, e2] X.env)).any (·.1) = false := by rfl) :
    dI X E F (.Tuple elts kk tpos) (.Call (.Name "zip" p) [e, e2] [⟨some "strict", .Constant (.bool false) j p3, p4⟩] pos) ρ μ kI := fun σ G H sr m pf R po => by
  refine w_pi (pi_zipK hg hm pa_w hs hpl) ?_
  refine h σ G H sr m pf _ fun vs as G1 μ1 H1 h1 s1 m1 r => ?_
  obtain ⟨xs, ys, rfl, q⟩ := h1
  obtain ⟨v, u, rfl, rv, ru⟩ := reps2 r
  obtain ⟨a, vs, rfl, hsa, rsa⟩ := rep_tup rv
  obtain ⟨b, us, rfl, hsb, rsb⟩ := rep_tup ru
  have la := Reps.len rsa
  have lb := Reps.len rsb
  rw [List.length_map] at la lb
  refine ⟨a, b, vs, us, rfl, Ext.sqT m1.sub hsa, Ext.sqT m1.sub hsb, po _ _ _ G1 μ1 H1 q s1 m1 ⟨fun i H2 G2 μ2 m2 ex _ hi => ?_, fun i H2 G2 μ2 m2 ex _ hi => ?_, fun i H2 v H' G2 μ2 xv m2 ex _ hx hy => ?_⟩⟩
  · have hi : i < vs.length ∧ i < us.length := by
      unfold zipD at hi
      rw [List.length_map, List.length_map, List.length_zip] at hi
      omega
    exact ⟨vs, us, _, _, Ext.sqT (ex.trans m2.sub) hsa, Ext.sqT (ex.trans m2.sub) hsb, List.getElem?_eq_getElem hi.1, List.getElem?_eq_getElem hi.2⟩
  · have hi : vs.length ≤ i ∨ us.length ≤ i := by
      unfold zipD at hi
      rw [List.length_map, List.length_map, List.length_zip] at hi
      omega
    exact ⟨vs, us, Ext.sqT (ex.trans m2.sub) hsa, Ext.sqT (ex.trans m2.sub) hsb, hi⟩
  · obtain ⟨T, y, zz, rfl, hT, rfl, h1, h2⟩ := hy
    have e1 := h1 vs (Ext.sqT (ex.trans m2.sub) hsa)
    have e2 := h2 us (Ext.sqT (ex.trans m2.sub) hsb)
    unfold zipD at hx
    rw [List.map_map, List.getElem?_map] at hx
    cases q : (xs.zip ys)[i]? with
    | none => rw [q] at hx; cases hx
    | some pr =>
      rw [q] at hx
      cases hx
      obtain ⟨g1, g2⟩ := List.getElem?_zip_eq_some.mp q
      obtain ⟨y', ey, ry⟩ := Reps.get rsa (i := i) (a := .d pr.1) (by rw [List.getElem?_map, g1]; rfl)
      obtain ⟨z', ez, rz⟩ := Reps.get rsb (i := i) (a := .d pr.2) (by rw [List.getElem?_map, g2]; rfl)
      rw [e1] at ey
      rw [e2] at ez
      cases ey
      cases ez
      refine ⟨_, Stp.imm m2 hT, m2.imm hT, ?_⟩
      show Dp X.K _ _ _
      have gx := ex.trans (Ext.new (m2.free hT).1 (o := .tup [y, zz]))
      exact .tup (SqT.of upd_same) (.cons (ry.ext gx) (.cons (rz.ext gx) .nil))
end K87
end

section
set_option Elab.async false
set_option linter.all false
set_option maxRecDepth 100000
set_option maxHeartbeats 2100000
set_option autoImplicit false
namespace K87
open PySem PySem.Spec PySem.W PyProof.Rows L2 RZ
section
variable {prog : Program} {w : World} {A : Around} {E : Value → Shared → Prop} {sh : Shared}
theorem zipT_held {zz TI TO T i1 i2 l1 l2 : Addr} {f : Bool} {oT : Obj} {k1 k2 : Nat} {xs ys : Array Value} {xv y : Value} {Q : Value → Shared → Prop} (D : ZipApart zz TI TO i1 i2 l1 l2)
    (hz : IsZipHeld sh.heap zz TI TO T f) (hT : sh.heap.get? T = some oT) (hTI : IsPair sh.heap TI (.ref i1) (.ref i2))
    (h1 : sh.heap.IsTupleIter i1 l1 k1) (h2 : sh.heap.IsTupleIter i2 l2 k2) (hl1 : sh.heap.IsTuple l1 xs) (hl2 : sh.heap.IsTuple l2 ys) (hx : xs[k1]? = some xv) (hy : ys[k2]? = some y)
    (hQ : ∀ h', IsZipHeld h' zz TI TO T true → h'.IsTupleIter i1 l1 (k1 + 1) → h'.IsTupleIter i2 l2 (k2 + 1) → IsPair h' sh.heap.objs.size xv y →
      (∀ cv o, cv ≠ zz → cv ≠ i1 → cv ≠ i2 → sh.heap.get? cv = some o → h'.get? cv = some o) → Q (.ref sh.heap.objs.size) { sh with heap := h' }) :
    wpAny (model prog w) A (Builtin.«zip.__next__» ⟨[.ref zz], []⟩) (fun fin s' => ∃ v, fin = .done (.ret v) ∧ Q v s') E sh := by
  show wpAny _ _ (field (.ref zz) 2 >>= _) _ _ _
  (refine wpAny_bind (wpAny_field hz rfl (x := .bool false) rfl ?_)); show wpAny _ _ (field (.ref zz) 3 >>= _) _ _ _
  (refine wpAny_bind (wpAny_field hz rfl (x := .ref TI) rfl ?_)); refine wpAny_bind (wpAny_seqItems hTI rfl ?_)
  show wpAny _ _ (Builtin.SmallTypes.ownedTupleIsFree (.ref zz) >>= _) _ _ _
  refine wpAny_bind (wpAny_tupleHeld_zip hz hT fun g₁ hz₁ hs₁ => ?_)
  (simp only [Bool.false_eq_true, if_false]); refine wpAny_bind ?_
  rw [← Array.forIn_toList]
  (simp only [List.forIn_cons, List.forIn_nil]); refine wpAny_bind (wpAny_bind (wpAny_holding ?_))
  (show wpAny _ _ (Builtin.SmallTypes.nextOf (.ref i1) >>= _) _ _ _); refine wpAny_bind (nextOf_tuple_item (s := { sh with heap := g₁ }) (h1.extBut hs₁.extBut D.i1z) (hl1.extBut hs₁.extBut D.l1z) hx fun h₂ h1₂ hs₂ => wpAny_pure ?_)
  refine wpAny_pure ?_
  (refine wpAny_bind (wpAny_bind (wpAny_holding ?_))); show wpAny _ _ (Builtin.SmallTypes.nextOf (.ref i2) >>= _) _ _ _
  refine wpAny_bind (nextOf_tuple_item (s := { sh with heap := h₂ }) ((h2.extBut hs₁.extBut D.i2z).extBut hs₂.extBut D.i12.symm) ((hl2.extBut hs₁.extBut D.l2z).extBut hs₂.extBut D.l2i1) hy fun h₃ h2₃ hs₃ => wpAny_pure ?_)
  (refine wpAny_pure (wpAny_pure ?_)); show wpAny _ _ (newTuple [xv, y] >>= _) _ _ _
  (refine wpAny_bind (wpAny_newTuple ?_)); have hsz : h₃.objs.size = sh.heap.objs.size := by rw [hs₃.1, hs₂.1, hs₁.1]
  have hz₃ : IsZipHeld h₃ zz TI TO T true := hs₃.extBut _ _ D.i2z.symm (hs₂.extBut _ _ D.i1z.symm hz₁)
  have hk : ∀ cv o, cv ≠ zz → cv ≠ i1 → cv ≠ i2 → sh.heap.get? cv = some o → h₃.get? cv = some o := fun cv o c1 c2 c3 e => hs₃.extBut _ _ c3 (hs₂.extBut _ _ c2 (hs₁.extBut _ _ c1 e))
  have h1₃ : h₃.IsTupleIter i1 l1 (k1 + 1) := h1₂.extBut hs₃.extBut D.i12
  (refine wpAny_pure ⟨_, rfl, ?_⟩); show Q (.ref h₃.objs.size) _
  have hp : IsPair (h₃.push { cls := .type "tuple", data := .seq #[xv, y] }) h₃.objs.size xv y := Heap.get?_push_size _ rfl
  rw [hsz] at hp ⊢
  exact hQ _ (Heap.get?_push_of_some _ hz₃) (h1₃.at fun o e => Heap.get?_push_of_some _ e) (h2₃.at fun o e => Heap.get?_push_of_some _ e) hp fun cv o c1 c2 c3 e => Heap.get?_push_of_some _ (hk cv o c1 c2 c3 e)
theorem zipT_held_end {zz TI TO T i1 i2 l1 l2 : Addr} {f : Bool} {oT : Obj} {k1 k2 : Nat} {xs ys : Array Value} {Q : Fin → Shared → Prop} (hh : A.handled = none) (D : ZipApart zz TI TO i1 i2 l1 l2)
    (hz : IsZipHeld sh.heap zz TI TO T f) (hT : sh.heap.get? T = some oT) (hTI : IsPair sh.heap TI (.ref i1) (.ref i2))
    (h1 : sh.heap.IsTupleIter i1 l1 k1) (h2 : sh.heap.IsTupleIter i2 l2 k2) (hl1 : sh.heap.IsTuple l1 xs) (hl2 : sh.heap.IsTuple l2 ys) (hend : xs[k1]? = none ∨ ys[k2]? = none)
    (hE : ∀ h' e, (∀ cv o, cv ≠ zz → cv ≠ i1 → cv ≠ i2 → sh.heap.get? cv = some o → h'.get? cv = some o) → (∃ o, h'.get? e = some o ∧ o.cls = .type "StopIteration") → E (.ref e) { sh with heap := h' }) :
    wpAny (model prog w) A (Builtin.«zip.__next__» ⟨[.ref zz], []⟩) Q E sh := by
  show wpAny _ _ (field (.ref zz) 2 >>= _) _ _ _
  (refine wpAny_bind (wpAny_field hz rfl (x := .bool false) rfl ?_)); show wpAny _ _ (field (.ref zz) 3 >>= _) _ _ _
  (refine wpAny_bind (wpAny_field hz rfl (x := .ref TI) rfl ?_)); refine wpAny_bind (wpAny_seqItems hTI rfl ?_)
  show wpAny _ _ (Builtin.SmallTypes.ownedTupleIsFree (.ref zz) >>= _) _ _ _
  refine wpAny_bind (wpAny_tupleHeld_zip hz hT fun g₁ hz₁ hs₁ => ?_)
  (simp only [Bool.false_eq_true, if_false]); refine wpAny_bind ?_
  rw [← Array.forIn_toList]
  (simp only [List.forIn_cons, List.forIn_nil]); refine wpAny_bind (wpAny_bind (wpAny_holding ?_))
  (show wpAny _ _ (Builtin.SmallTypes.nextOf (.ref i1) >>= _) _ _ _); cases hx : xs[k1]? with
  | none =>
    refine wpAny_bind (nextOf_tuple_end (s := { sh with heap := g₁ }) hh (h1.extBut hs₁.extBut D.i1z) (hl1.extBut hs₁.extBut D.l1z) hx fun h₂ e hs₂ he => ?_)
    exact hE h₂ e (fun cv o c1 c2 _ xv => hs₂ _ _ c2 (hs₁.extBut _ _ c1 xv)) he
  | some xv =>
    (have hy : ys[k2]? = none := by rcases hend with h | h; rw [hx] at h; cases h; exact h); refine wpAny_bind (nextOf_tuple_item (s := { sh with heap := g₁ }) (h1.extBut hs₁.extBut D.i1z) (hl1.extBut hs₁.extBut D.l1z) hx fun h₂ h1₂ hs₂ => wpAny_pure ?_)
    refine wpAny_pure ?_
    (refine wpAny_bind (wpAny_bind (wpAny_holding ?_))); show wpAny _ _ (Builtin.SmallTypes.nextOf (.ref i2) >>= _) _ _ _
    refine wpAny_bind (nextOf_tuple_end (s := { sh with heap := h₂ }) hh ((h2.extBut hs₁.extBut D.i2z).extBut hs₂.extBut D.i12.symm) ((hl2.extBut hs₁.extBut D.l2z).extBut hs₂.extBut D.l2i1) hy fun h₃ e hs₃ he => ?_)
    exact hE h₃ e (fun cv o c1 c2 c3 xv => hs₃ _ _ c3 (hs₂.extBut _ _ c2 (hs₁.extBut _ _ c1 xv))) he
/-- a zip over two tuples as a list takes from it -/
structure ZSt (h : Heap) (S zz TI TO i1 i2 a b : Addr) (i : Nat) : Prop where
  zp : IsZip h zz TI TO .none ∨ ∃ T f oT, IsZipHeld h zz TI TO T f ∧ h.get? T = some oT ∧ T ∉ [S, zz, TI, TO, i1, i2]
  ti : IsPair h TI (.ref i1) (.ref i2)
  to : ∃ xv y, IsPair h TO xv y
  u1 : h.IsTupleIter i1 a i
  u2 : h.IsTupleIter i2 b i
theorem ZSt.keep {h h' : Heap} {S zz TI TO i1 i2 a b : Addr} {i : Nat} (st : ZSt h S zz TI TO i1 i2 a b i) (hS : S ∉ [zz, TI, TO, i1, i2]) (k : ∀ cv o, cv ≠ S → h.get? cv = some o → h'.get? cv = some o) : ZSt h' S zz TI TO i1 i2 a b i := by
  have ne : ∀ cv, cv ∈ [zz, TI, TO, i1, i2] → cv ≠ S := fun cv hc e => hS (e ▸ hc)
  obtain ⟨zp, ti, ⟨xv, y, to⟩, u1, u2⟩ := st
  refine ⟨?_, k _ _ (ne _ (by simp)) ti, ⟨xv, y, k _ _ (ne _ (by simp)) to⟩, u1.at fun o e => k _ o (ne _ (by simp)) e, u2.at fun o e => k _ o (ne _ (by simp)) e⟩
  rcases zp with zp | ⟨T, f, oT, h1, h2, h3⟩
  · exact .inl (k _ _ (ne _ (by simp)) zp)
  · exact .inr ⟨T, f, oT, k _ _ (ne _ (by simp)) h1, k _ _ (fun e => h3 (by rw [e]; simp)) h2, h3⟩
theorem zip_pull {S zz TI TO i1 i2 a b : Addr} {i : Nat} {xs ys : Array Value} {xv y : Value} {Q : Option Value → Shared → Prop} (D : ZipApart zz TI TO i1 i2 a b) (st : ZSt sh.heap S zz TI TO i1 i2 a b i)
    (hSl : S < sh.heap.objs.size) (hl1 : sh.heap.IsTuple a xs) (hl2 : sh.heap.IsTuple b ys) (hx : xs[i]? = some xv) (hy : ys[i]? = some y)
    (hQ : ∀ h', ZSt h' S zz TI TO i1 i2 a b (i + 1) → IsPair h' sh.heap.objs.size xv y → (∀ cv o, cv ∉ [zz, TI, TO, i1, i2] → sh.heap.get? cv = some o → h'.get? cv = some o) → Q (some (.ref sh.heap.objs.size)) { sh with heap := h' }) :
    wpAny (model prog w) A (pyNext (.ref zz)) Q E sh := by
  obtain ⟨zp, ti, ⟨x0, y0, to⟩, u1, u2⟩ := st
  have zl : zz < sh.heap.objs.size := by rcases zp with h | ⟨_, _, _, h, _⟩ <;> exact Heap.lt_size h
  have til := Heap.lt_size ti
  have tol := Heap.lt_size to
  have u1l : i1 < sh.heap.objs.size := by obtain ⟨_, e, _⟩ := u1; exact Heap.lt_size e
  have u2l : i2 < sh.heap.objs.size := by obtain ⟨_, e, _⟩ := u2; exact Heap.lt_size e
  have fr : sh.heap.objs.size ∉ [S, zz, TI, TO, i1, i2] := fun h => by
    have e : sh.heap.objs.size = S ∨ sh.heap.objs.size = zz ∨ sh.heap.objs.size = TI ∨ sh.heap.objs.size = TO ∨ sh.heap.objs.size = i1 ∨ sh.heap.objs.size = i2 := by simpa using h
    rcases e with e | e | e | e | e | e
    · exact Nat.ne_of_gt hSl e
    · exact Nat.ne_of_gt zl e
    · exact Nat.ne_of_gt til e
    · exact Nat.ne_of_gt tol e
    · exact Nat.ne_of_gt u1l e
    · exact Nat.ne_of_gt u2l e
  have five : ∀ cv, cv ∉ [zz, TI, TO, i1, i2] → cv ≠ zz ∧ cv ≠ TI ∧ cv ≠ TO ∧ cv ≠ i1 ∧ cv ≠ i2 := fun cv h => by simpa using h
  rcases zp with hz | ⟨T, f, oT, hz, hT, hTn⟩
  · refine pyNext_zipT_item D hz ti to u1 u2 hl1 hl2 hx hy fun h' z' TO' h1' h2' hT hsz hk => ?_
    refine hQ h' ⟨.inr ⟨_, false, _, z', hT, fr⟩, hk _ _ D.TIz D.TITO D.TIi1 D.TIi2 ti, ⟨_, _, TO'⟩, h1', h2'⟩ hT fun cv o hc e => ?_
    obtain ⟨c1, _, c3, c4, c5⟩ := five cv hc
    exact hk cv o c1 c3 c4 c5 e
  · have hTy : sh.TypeIs (.ref zz) "zip" := ⟨_, hz, rfl⟩
    (unfold pyNext); refine wpAny_bind (wpAny_attempt (wpAny_callSpecial?_slot (name := Str.ofString "__next__") hTy F.slot_zip_next
      (wpAny_call_entry F.slot_zip_next (hTy) F.entry_zip_next
        (zipT_held D hz hT ti u1 u2 hl1 hl2 hx hy fun h' a1 a3 a4 a5 a7 => wpAny_pure ?_) (F.args_zip_next_1 _))))
    have hT6 : T ≠ S ∧ T ≠ zz ∧ T ≠ TI ∧ T ≠ TO ∧ T ≠ i1 ∧ T ≠ i2 := by simpa using hTn
    refine hQ h' ⟨.inr ⟨T, true, oT, a1, a7 _ _ hT6.2.1 hT6.2.2.2.2.1 hT6.2.2.2.2.2 hT, hTn⟩, a7 _ _ D.TIz D.TIi1 D.TIi2 ti, ⟨_, _, a7 _ _ D.TOz D.TOi1 D.TOi2 to⟩, a3, a4⟩ a5 fun cv o hc e => ?_
    obtain ⟨c1, _, c3, c4, c5⟩ := five cv hc
    exact a7 cv o c1 c4 c5 e
theorem zip_stop {S zz TI TO i1 i2 a b : Addr} {i : Nat} {xs ys : Array Value} {Q : Option Value → Shared → Prop} (hh : A.handled = none) (D : ZipApart zz TI TO i1 i2 a b) (st : ZSt sh.heap S zz TI TO i1 i2 a b i)
    (hl1 : sh.heap.IsTuple a xs) (hl2 : sh.heap.IsTuple b ys) (hend : xs[i]? = none ∨ ys[i]? = none)
    (hQ : ∀ h', (∀ cv o, cv ∉ [zz, TI, TO, i1, i2] → sh.heap.get? cv = some o → h'.get? cv = some o) → Q none { sh with heap := h' }) :
    wpAny (model prog w) A (pyNext (.ref zz)) Q E sh := by
  obtain ⟨zp, ti, ⟨x0, y0, to⟩, u1, u2⟩ := st
  have five : ∀ cv, cv ∉ [zz, TI, TO, i1, i2] → cv ≠ zz ∧ cv ≠ TI ∧ cv ≠ TO ∧ cv ≠ i1 ∧ cv ≠ i2 := fun cv h => by simpa using h
  rcases zp with hz | ⟨T, f, oT, hz, hT, hTn⟩
  · refine pyNext_zipT_end hh D hz ti to u1 u2 hl1 hl2 hend fun h' hk => ?_
    refine hQ h' fun cv o hc e => ?_
    obtain ⟨c1, _, c3, c4, c5⟩ := five cv hc
    exact hk cv o c1 c3 c4 c5 e
  · have hTy : sh.TypeIs (.ref zz) "zip" := ⟨_, hz, rfl⟩
    (unfold pyNext); refine wpAny_bind (wpAny_attempt (wpAny_callSpecial?_slot (name := Str.ofString "__next__") hTy F.slot_zip_next
      (wpAny_call_entry F.slot_zip_next (hTy) F.entry_zip_next (zipT_held_end hh D hz hT ti u1 u2 hl1 hl2 hend fun h' e hk he => ?_) (F.args_zip_next_1 _))))
    obtain ⟨o, ho, hc⟩ := he
    (refine wpAny_bind (wpAny_isInstance (T := "StopIteration") (b := true) ⟨o, ho, hc⟩ isSubtype_stop ?_)); refine wpAny_pure (hQ _ fun cv o hc e => ?_)
    obtain ⟨c1, _, c3, c4, c5⟩ := five cv hc
    exact hk cv o c1 c4 c5 e
end
end K87
end

section
set_option Elab.async false
set_option linter.all false
set_option maxRecDepth 100000
set_option maxHeartbeats 2100000
set_option autoImplicit false
namespace K87
open PySem PySem.Spec PySem.W PyProof.Rows L2 RZ
theorem zip_no_len : typeLookup (.type "zip") "__len__" = pure none := by rw [typeLookup_type, builtinLookup_eq_fast]; kernel_rfl
theorem zip_no_hint : typeLookup (.type "zip") "__length_hint__" = pure none := by rw [typeLookup_type, builtinLookup_eq_fast]; kernel_rfl
section
variable {X : Cx} {pins : List (Addr × Obj)} {σ : L2.St} {S zz TI TO i1 i2 a b : Addr} {P : Nat → List V → Hp → Prop} {Rs : Result → Shared → Prop} {A1 : Around} {xs ys : List V}
theorem FpOk.upd' {H : Hp} {T cv : Addr} {o : HO} (h : FpOk X pins H cv) (e : cv ≠ T) : FpOk X pins (upd H T o) cv := by
  unfold FpOk at h ⊢
  refine ⟨?_, h.2⟩
  rw [upd_ne e]; exact h.1
theorem ZSt.lt {sh : Shared} {i cv : Nat} (st : ZSt sh.heap S zz TI TO i1 i2 a b i) (hc : cv ∈ [zz, TI, TO, i1, i2]) : cv < sh.heap.objs.size := by
  obtain ⟨zp, ti, ⟨x0, y0, to⟩, u1, u2⟩ := st
  have e : cv = zz ∨ cv = TI ∨ cv = TO ∨ cv = i1 ∨ cv = i2 := by simpa using hc
  rcases e with e | e | e | e | e
  · rw [e]; rcases zp with h | ⟨_, _, _, h, _⟩ <;> exact Heap.lt_size h
  · rw [e]; exact Heap.lt_size ti
  · rw [e]; exact Heap.lt_size to
  · rw [e]; obtain ⟨_, e, _⟩ := u1; exact Heap.lt_size e
  · rw [e]; obtain ⟨_, e, _⟩ := u2; exact Heap.lt_size e
theorem zl_loop (hh : A1.handled = none) (D : ZipApart zz TI TO i1 i2 a b) (hSn : S ∉ [zz, TI, TO, i1, i2])
    (hstep : ∀ i acc H xv y, P i acc H → xs[i]? = some xv → ys[i]? = some y → acc.length < sizeLine ∧ ∀ T, H T = none → P (i + 1) (acc ++ [.ref T]) (upd (upd H T (.tup [xv, y])) S (.lst (acc ++ [.ref T]))))
    (hinv : ∀ i acc H, P i acc H → H S = some (.lst acc) ∧ SqT X.K H a xs ∧ SqT X.K H b ys)
    (hend : ∀ acc H sh, Inv X pins σ H sh → P (min xs.length ys.length) acc H → Rs (.ok (.ret .none)) sh) :
    ∀ (k i : Nat) (acc : List V) (H : Hp) (sh : Shared), Inv X pins σ H sh → P i acc H → ZSt sh.heap S zz TI TO i1 i2 a b i → (∀ cv ∈ [zz, TI, TO, i1, i2], FpOk X pins H cv) → k = min xs.length ys.length - i → i ≤ min xs.length ys.length →
      codeAny (model X.prog X.w) A1 (.builtin "list.extend.loop" ⟨[.ref S, .ref zz, .none], []⟩) Rs sh := by
  intro k
  induction k with
  | zero =>
    intro i acc H sh I hP st hf hk hi
    have ei : i = min xs.length ys.length := by omega
    obtain ⟨hS, hqx, hqy⟩ := hinv i acc H hP
    (obtain ⟨its, rv, p, _⟩ := I.tuple hqx); obtain ⟨its2, rv2, p2, _⟩ := I.tuple hqy
    have l1 := rv.length
    have l2 := rv2.length
    (refine codeAny_builtin PySem.F.entry_extend_loop ?_); rw [Around.under_plainId PySem.F.plain_extend_loop _]
    show wpAny _ A1.in1 (pyNext (.ref zz) >>= _) _ _ sh
    refine wpAny_bind (zip_stop hh D st p p2 ?_ fun h' hk' => ?_)
    · rcases Nat.le_total xs.length ys.length with h | h
      · left; simp; omega
      · right; simp; omega
    · have I1 : Inv X pins σ H { sh with heap := h' } := I.turnedL (t' := sh.toks) (ch := [zz, TI, TO, i1, i2]) (fun cv o hb q => hk' cv o hb q) hf
      exact wpAny_pure (hend acc H _ I1 (ei ▸ hP))
  | succ k ih =>
    intro i acc H sh I hP st hf hk hi
    have lt1 : i < xs.length := by omega
    have lt2 : i < ys.length := by omega
    obtain ⟨hS, hqx, hqy⟩ := hinv i acc H hP
    (obtain ⟨its, rv, p, _⟩ := I.tuple hqx); obtain ⟨its2, rv2, p2, _⟩ := I.tuple hqy
    obtain ⟨u, hu, ru⟩ := rv.get (List.getElem?_eq_getElem lt1)
    obtain ⟨u2, hu2, ru2⟩ := rv2.get (List.getElem?_eq_getElem lt2)
    obtain ⟨hacc, hnext⟩ := hstep i acc H _ _ hP (List.getElem?_eq_getElem lt1) (List.getElem?_eq_getElem lt2)
    obtain ⟨_, itsS, nS, _, _, eS⟩ := I.lstM hS
    have hSl : S < sh.heap.objs.size := Heap.lt_size eS
    (refine codeAny_builtin PySem.F.entry_extend_loop ?_); rw [Around.under_plainId PySem.F.plain_extend_loop _]
    show wpAny _ A1.in1 (pyNext (.ref zz) >>= _) _ _ sh
    refine wpAny_bind (zip_pull D st hSl p p2 (xv := u) (y := u2) (by simpa using hu) (by simpa using hu2) fun h' st' hT hk' => ?_)
    have fr : H sh.heap.objs.size = none := I.fresh
    have new : ObjOk X.prog X.w (upd H sh.heap.objs.size (.tup [xs[i], ys[i]])) h' sh.heap.objs.size (.tup [xs[i], ys[i]]) :=
      ⟨by show 2 ≤ sizeLine; decide, [u, u2], .cons ru (.cons ru2 .nil), ⟨_, hT, rfl, _, rfl⟩⟩
    have I1 : Inv X pins σ (upd H sh.heap.objs.size (.tup [xs[i], ys[i]])) { sh with heap := h' } :=
      I.turnedNew (t' := sh.toks) (ch := [zz, TI, TO, i1, i2]) (fun cv o hb q => hk' cv o hb q) hf (Nat.le_refl _) new
    show wpAny _ A1.in1 (updateSeq S (·.push (.ref sh.heap.objs.size)) >>= _) _ _ _
    have hS1 : upd H sh.heap.objs.size (.tup [xs[i], ys[i]]) S = some (.lst acc) := by rw [upd_ne (Nat.ne_of_lt hSl)]; exact hS
    obtain ⟨zz, its3, kk, r3, hl3, e3⟩ := I1.lstM hS1
    refine wpAny_bind (wpAny_updateSeq e3 rfl (wpAny_pure ⟨plainId_quiet PySem.F.plain_extend_loop _, ?_⟩) (by rw [List.size_toArray]; omega) (by show (its3.toArray.push (.ref sh.heap.objs.size)).size ≤ sizeLine + 1; rw [Array.size_push, List.size_toArray]; omega))
    have rr : L2.RelV (V.ref sh.heap.objs.size) (Value.ref sh.heap.objs.size) := rfl
    refine ih (i + 1) (acc ++ [.ref sh.heap.objs.size]) _ _ (I1.lset (f := (·.push (.ref sh.heap.objs.size))) (its' := its3 ++ [.ref sh.heap.objs.size]) (t' := sh.toks) hS1 e3 (by simp) (r3.append (.cons rr .nil)) (by rw [List.length_append, List.length_singleton]; omega)) (hnext _ fr) ?_ (fun cv hc => ?_) (by omega) (by omega)
    · exact ZSt.keep st' hSn fun cv o hc e => (Heap.get?_update_other _ _ (Ne.symm hc)).trans e
    · exact FpOk.upd' (FpOk.upd' (hf cv hc) (Nat.ne_of_lt (st.lt hc))) (fun e => hSn (e ▸ hc))
/-- list(zip) -/
theorem call_listZip {H : Hp} {sh : Shared} {Q : VK} (hr : X.A.handled = none) (D : ZipApart zz TI TO i1 i2 a b) (I : Inv X pins σ H sh) (hf : ∀ cv ∈ [zz, TI, TO, i1, i2], FpOk X pins H cv) (hz : IsZip sh.heap zz TI TO .none) (ti : IsPair sh.heap TI (.ref i1) (.ref i2)) (to : ∃ xv y, IsPair sh.heap TO xv y)
    (u1 : sh.heap.IsTupleIter i1 a 0) (u2 : sh.heap.IsTupleIter i2 b 0)
    (h : ∀ S, H S = none → ∃ P : Nat → List V → Hp → Prop, P 0 [] (upd H S (.lst [])) ∧
      (∀ i acc H xv y, P i acc H → xs[i]? = some xv → ys[i]? = some y → acc.length < sizeLine ∧ ∀ T, H T = none → P (i + 1) (acc ++ [.ref T]) (upd (upd H T (.tup [xv, y])) S (.lst (acc ++ [.ref T])))) ∧
      (∀ i acc H, P i acc H → H S = some (.lst acc) ∧ SqT X.K H a xs ∧ SqT X.K H b ys) ∧ ∀ acc H, P (min xs.length ys.length) acc H → Q (.ref S) H) :
    wpAny (model X.prog X.w) X.A (call (.type "list") [.ref zz]) (EP X pins σ Q) X.xe sh := by
  have st0 : ∀ S, ZSt sh.heap S zz TI TO i1 i2 a b 0 := fun S => ⟨.inl hz, ti, to, u1, u2⟩
  refine callType_codes (Q₁ := fun obj t₁ => obj = .ref sh.heap.objs.size ∧ t₁ = { sh with heap := sh.heap.push { cls := .type "list", data := .seq #[] } }) PySem.F.called_list (PySem.F.typeCall_list_1 _) PySem.F.entry_list_init
    (code_list_new _ ⟨rfl, rfl⟩) fun obj t₁ g₁ => ?_
  obtain ⟨rfl, rfl⟩ := g₁
  have hS : (sh.heap.push { cls := .type "list", data := .seq #[] }).get? sh.heap.objs.size = some { cls := .type "list", data := .seq #[] } := Heap.get?_push_size _ rfl
  (refine ⟨⟨_, hS, rfl⟩, PySem.F.args_list_init_2 _ _, ?_⟩); have fr : H sh.heap.objs.size = none := I.fresh
  obtain ⟨P, hP, hstep, hinv, hend⟩ := h _ fr
  have hSn : sh.heap.objs.size ∉ [zz, TI, TO, i1, i2] := fun hc => Nat.lt_irrefl _ ((st0 0).lt hc)
  have hzl : zz < sh.heap.objs.size := Heap.lt_size hz
  have I1 : Inv X pins σ (upd H sh.heap.objs.size (.lst [])) { sh with heap := sh.heap.push { cls := .type "list", data := .seq #[] } } := I.lnew (its := []) (t' := sh.toks) .nil (Nat.zero_le _)
  show wpAny _ _ (do let old ← Builtin.List.listItems (.ref sh.heap.objs.size); Builtin.List.listUpdate (.ref sh.heap.objs.size) (fun _ => #[]); letGo old.toList.reverse; Builtin.List.listExtendWith (.ref sh.heap.objs.size) (.ref zz) .none) _ _ _
  refine wpAny_bind ?_
  unfold Builtin.List.listItems
  (refine wpAny_bind (wpAny_seqItems hS rfl (wpAny_pure ?_))); show wpAny _ _ (updateSeq sh.heap.objs.size (fun _ => #[]) >>= fun _ => letGo (#[] : Array Value).toList.reverse >>= fun _ => Builtin.List.listExtendWith (.ref sh.heap.objs.size) (.ref zz) .none) _ _ _
  (refine wpAny_bind (wpAny_updateSeq hS rfl ?_)); have I2 := I1.lset (f := fun _ => #[]) (its := []) (its' := []) (ys := []) (t' := sh.toks) upd_same hS rfl .nil (Nat.zero_le _)
  rw [upd_upd] at I2
  have keepZ : ∀ {h' : Heap}, (∀ cv o, cv ≠ sh.heap.objs.size → sh.heap.get? cv = some o → h'.get? cv = some o) → IsZip h' zz TI TO .none ∧ ZSt h' sh.heap.objs.size zz TI TO i1 i2 a b 0 := fun {h'} k =>
    ⟨k _ _ (Nat.ne_of_lt hzl) hz, (st0 sh.heap.objs.size).keep hSn k⟩
  have k1 : ∀ cv o, cv ≠ sh.heap.objs.size → sh.heap.get? cv = some o → (sh.heap.push { cls := .type "list", data := .seq #[] }).get? cv = some o := fun cv o _ e => Heap.get?_push_of_some _ e
  have up : ∀ {h' : Heap} (f : Obj → Obj), (∀ cv o, cv ≠ sh.heap.objs.size → sh.heap.get? cv = some o → h'.get? cv = some o) → ∀ cv o, cv ≠ sh.heap.objs.size → sh.heap.get? cv = some o → (h'.update sh.heap.objs.size f).get? cv = some o := fun {h'} f k cv o hc e =>
    (Heap.get?_update_other _ _ (Ne.symm hc)).trans (k cv o hc e)
  have k2 := up (Obj.mapSeq fun _ => #[]) k1
  (refine wpAny_bind (wpAny_letGo ?_)); have ty : ∀ {h' : Heap} {t' : Nat}, IsZip h' zz TI TO .none → Shared.TypeIs { sh with heap := h', toks := t' } (.ref zz) "zip" := fun q => ⟨_, q, rfl⟩
  (unfold Builtin.List.listExtendWith); refine wpAny_bind (wpAny_typeOf (s := { sh with heap := _ }) (ty (t' := sh.toks) (keepZ k2).1) ?_)
  have h1 : Builtin.List.listSameRef (.ref sh.heap.objs.size) (.ref zz) = false := by simp [Builtin.List.listSameRef, Nat.ne_of_gt hzl]
  have h2 : (Value.type "zip" == Value.type "list") = false := by decide
  have h3 : (Value.type "zip" == Value.type "tuple") = false := by decide
  (simp only [h1, h2, h3, Bool.or_false, Bool.false_eq_true, if_false]); refine wpAny_bind (wpAny_pyIter_zip (s := { sh with heap := _ }) (keepZ k2).1 ?_)
  (refine wpAny_bind (wpAny_holding ?_)); unfold Builtin.List.listLengthHint
  refine wpAny_bind (wpAny_specialOf (s := { sh with heap := _ }) (ty (t' := sh.toks) (keepZ k2).1) zip_no_len ?_)
  show wpAny _ _ (specialOf (Value.ref zz) (Str.ofString "__length_hint__") >>= _) _ _ _
  refine wpAny_bind (wpAny_specialOf (s := { sh with heap := _ }) (ty (t' := sh.toks) (keepZ k2).1) zip_no_hint ?_)
  refine wpAny_pure ?_
  show wpAny _ _ (rule "list.extend.makes-room" >>= fun _ => Builtin.List.listTouch (.ref sh.heap.objs.size) >>= fun _ =>
    again (.builtin "list.extend.loop" ⟨[.ref sh.heap.objs.size, .ref zz, .none], []⟩)) _ _ _
  (refine wpAny_bind (wpAny_rule ?_)); refine wpAny_bind ?_
  show wpAny _ _ (updateSeq sh.heap.objs.size (·.push .none) >>= fun _ => updateSeq sh.heap.objs.size (·.pop)) _ _ _
  obtain ⟨zz, its, kk, r3, hl3, e3⟩ := I2.lstM upd_same
  cases r3
  (refine wpAny_bind (wpAny_updateSeq e3 rfl ?_)); have I3 := I2.lset (f := (·.push Value.none)) (its' := [Value.none]) (ys := [.non]) (t' := sh.toks) upd_same e3 (by simp) (.cons rfl .nil) (by rw [List.length_singleton, sizeLine_eq]; decide)
  have k3 := up (Obj.mapSeq (·.push Value.none)) k2
  obtain ⟨z4, its4, kk4, r4, hl4, e4⟩ := I3.lstM upd_same
  (obtain ⟨u4, rfl, ru4⟩ := r4.one); refine wpAny_updateSeq e4 rfl ?_ (by show 1 ≤ sizeLine; rw [sizeLine_eq]; decide) (by show 0 ≤ sizeLine + 1; exact Nat.zero_le _)
  have I4 := I3.lset (f := (·.pop)) (its := [u4]) (its' := []) (ys := []) (t' := sh.toks) upd_same e4 (by rfl) .nil (Nat.zero_le _)
  have k4 := up (Obj.mapSeq (·.pop)) k3
  rw [upd_upd, upd_upd] at I4
  refine wpAny_pure ⟨plainId_quiet PySem.F.plain_extend_loop _, ?_⟩
  refine zl_loop (A1 := X.A.in1) (P := P) (xs := xs) (ys := ys) (Rs := wants (fun r s₂ => r = .none ∧ EP X pins σ Q (.ref sh.heap.objs.size) s₂) X.xe) hr D hSn hstep hinv (fun acc H' s' I' hR => ⟨rfl, .ref sh.heap.objs.size, H', I', rfl, hend acc H' hR⟩) _ 0 [] _ _ I4 hP (keepZ k4).2 (fun cv hc => FpOk.upd' (hf cv hc) fun e => hSn (e ▸ hc)) rfl (Nat.zero_le _)
end
def tListZ (K : PySem.W.Frag) (ta : TA) : TE := fun σ H Q => ta σ H fun vs H1 => ∃ (a b : Addr) (xs ys : List V), vs = [.ref a, .ref b] ∧ SqT K H1 a xs ∧ SqT K H1 b ys ∧
  ∀ S, H1 S = none → ∃ P : Nat → List V → Hp → Prop, P 0 [] (upd H1 S (.lst [])) ∧
      (∀ i acc H xv y, P i acc H → xs[i]? = some xv → ys[i]? = some y → acc.length < sizeLine ∧ ∀ T, H T = none → P (i + 1) (acc ++ [.ref T]) (upd (upd H T (.tup [xv, y])) S (.lst (acc ++ [.ref T])))) ∧
      (∀ i acc H, P i acc H → H S = some (.lst acc) ∧ SqT K H a xs ∧ SqT K H b ys) ∧ ∀ acc H, P (min xs.length ys.length) acc H → Q (.ref S) H
theorem pe_listZip {X : Cx} {e e2 : Expr} {ta : TA} {p pos p0 pos0 p3 p4 : Pos} {j : Nat} (hr : X.A.handled = none) (hgl : Gl X "list") (hml : X.mg "list" = none) (hg : Gl X "zip") (hm : X.mg "zip" = none) (ha : PA X [e, e2] ta)
    (hs : backTo pos (starEach [e, e2] X.env) = (false, eval e X.env) :: backTo pos (starEach [e2] X.env) := by rfl) (hpl : (backTo pos (starEach [e, e2] X.env)).any (·.1) = false := by rfl)
    (hs0 : starEach [.Call (.Name "zip" p) [e, e2] [⟨some "strict", .Constant (.bool false) j p3, p4⟩] pos] X.env = (false, eval (.Call (.Name "zip" p) [e, e2] [⟨some "strict", .Constant (.bool false) j p3, p4⟩] pos) X.env) :: starEach [] X.env := by rfl)
    (hpl0 : (backTo pos0 (starEach [] X.env)).any (·.1) = false := by rfl) :
    PE X (.Call (.Name "list" p0) [.Call (.Name "zip" p) [e, e2] [⟨some "strict", .Constant (.bool false) j p3, p4⟩] pos] [] pos0) (tListZ X.K ta) := by
  refine ⟨fun pins sh σ H Q I h => ?_⟩
  refine Call_ (ld_blt I hgl hml bt_list (PyProof.Rows.callWith_type1 ?_ hs0 hpl0))
  refine args_cons ?_ hs0
  refine wpAny_Call_Name_kw (ld_blt I hg hm PyProof.Rows.boot_zip (callWith_typeKw (thn (ha.run pos pins sh σ H _ I h) fun us s1 ⟨vs, H1, I1, r1, q1⟩ => ?_) hs hpl))
  refine kws_cons ((pe_bl (X := X) (b := false) (j := j) (pos := p3)).run pins s1 σ H1 (fun v H2 => v = .bl false ∧ H2 = H1) I1 ⟨rfl, rfl⟩ |> fun zz => thn zz fun u s2 ⟨v, H2, I2, r2, ev, eh⟩ => ?_)
  subst ev eh
  cases r2
  refine kws_nil ?_
  (obtain ⟨a, b, xs, ys, ex, hqx, hqy, q⟩ := q1); subst ex
  cases r1 with
  | cons r rr =>
    cases rr with
    | cons r' rr =>
      cases rr
      cases r
      cases r'
      have fresh5 : ∀ cv, cv ∈ [s2.heap.objs.size + 4, s2.heap.objs.size + 2, s2.heap.objs.size + 3, s2.heap.objs.size, s2.heap.objs.size + 1] → FpOk X pins H2 cv := fun cv hcm => by
        have e' : cv = s2.heap.objs.size + 4 ∨ cv = s2.heap.objs.size + 2 ∨ cv = s2.heap.objs.size + 3 ∨ cv = s2.heap.objs.size ∨ cv = s2.heap.objs.size + 1 := by simpa using hcm
        have hlb : s2.heap.objs.size ≤ cv := by
          rcases e' with zz | zz | zz | zz | zz
          · rw [zz]; exact Nat.le_add_right _ _
          · rw [zz]; exact Nat.le_add_right _ _
          · rw [zz]; exact Nat.le_add_right _ _
          · rw [zz]; exact Nat.le_refl _
          · rw [zz]; exact Nat.le_add_right _ _
        exact I2.fpOk hlb (I2.hok.fresh hlb)
      obtain ⟨its, rv, p1, _⟩ := I2.tuple hqx
      obtain ⟨its2, rv2, p2, _⟩ := I2.tuple hqy
      obtain ⟨o1, ho1, _⟩ := id p1
      obtain ⟨o2, ho2, _⟩ := id p2
      refine call_zipK (show s2.heap.IsTuple a its.toArray from p1) (show s2.heap.IsTuple b its2.toArray from p2) fun h' hz hTI hTO h1 h2 hsz hk => ?_
      have I3 : Inv X pins σ H2 { s2 with heap := h' } := I2.kept (t' := s2.toks) hk
      refine args_nil ?_
      exact call_listZip (xs := xs) (ys := ys) (sh := { s2 with heap := h' }) hr (PySem.W.ktu_apart s2.heap.objs.size a b (Heap.lt_size ho1) (Heap.lt_size ho2)) I3 fresh5 hz hTI ⟨_, _, hTO⟩ h1 h2 q
/-- list(zip(a, b, strict=False)) over data -/
theorem d_listZip {X : Cx} {E : XK} {F : KF} {ρ : Env'} {μ : Mu} {k : KV'} {e e2 : Expr} {p pos p0 pos0 p3 p4 : Pos} {j : Nat} (hr : X.A.handled = none) (hgl : Gl X "list") (hml : X.mg "list" = none) (hg : Gl X "zip") (hm : X.mg "zip" = none)
    (h : dA X E F [e, e2] ρ μ fun as μ1 => ∃ xs ys, as = [tv xs, tv ys] ∧ xs.length ≤ 1000000 ∧ k (lv (zipD xs ys)) μ1)
    (hs : backTo pos (starEach [e, e2] X.env) = (false, eval e X.env) :: backTo pos (starEach [e2] X.env) := by rfl) (hpl : (backTo pos (starEach [e, e2] X.env)).any (·.1) = false := by rfl)
    (hs0 : starEach [.Call (.Name "zip" p) [e, e2] [⟨some "strict", .Constant (.bool false) j p3, p4⟩] pos] X.env = (false, eval (.Call (.Name "zip" p) [e, e2] [⟨some "strict", .Constant (.bool false) j p3, p4⟩] pos) X.env) :: starEach [] X.env := by rfl)
    (hpl0 : (backTo pos0 (starEach [] X.env)).any (·.1) = false := by rfl) :
    dE X E F (.Call (.Name "list" p0) [.Call (.Name "zip" p) [e, e2] [⟨some "strict", .Constant (.bool false) j p3, p4⟩] pos] [] pos0) ρ μ k := fun σ G H sr m pf Q po => by
  refine w_pe (pe_listZip hr hgl hml hg hm pa_w hs hpl hs0 hpl0) ?_
  refine h σ G H sr m pf _ fun vs as G1 μ1 H1 h1 s1 m1 r => ?_
  obtain ⟨xs, ys, rfl, hlb, q⟩ := h1
  obtain ⟨v, u, rfl, rv, ru⟩ := reps2 r
  obtain ⟨a, vs, rfl, hsa, rsa⟩ := rep_tup rv
  obtain ⟨b, us, rfl, hsb, rsb⟩ := rep_tup ru
  have la := Reps.len rsa
  have lb := Reps.len rsb
  rw [List.length_map] at la lb
  refine ⟨a, b, vs, us, rfl, Ext.sqT m1.sub hsa, Ext.sqT m1.sub hsb, fun S hS => ?_⟩
  obtain ⟨gS, mS⟩ := m1.free hS
  have zg : ∀ i, (zipD xs ys)[i]? = ((xs.zip ys)[i]?).map (fun p : PyData × PyData => PyData.tuple [p.1, p.2]) := fun i => by unfold zipD; rw [List.getElem?_map]
  have zl : (zipD xs ys).length = min vs.length us.length := by unfold zipD; rw [List.length_map, List.length_zip, la, lb]
  refine ⟨fun i acc H' => i ≤ min vs.length us.length ∧ ∃ G', Stp G1 μ1 H1 G' μ1 H' ∧ MOk X.K G' μ1 H' ∧ H' S = some (.lst acc) ∧ G' S = none ∧ Reps X.K G' acc (((zipD xs ys).take i).map .d), ⟨Nat.zero_le _, G1, Stp.out hS, m1.out hS, upd_same, gS, .nil⟩, fun i acc H' xv y hP hx hy => ?_, fun i acc H' hP => ?_, fun acc H' hP => ?_⟩
  · obtain ⟨hi, G', st, m', hS', gS', rs⟩ := hP
    have lr := Reps.len rs
    rw [List.length_map, List.length_take] at lr
    have lt1 := (List.getElem?_eq_some_iff.mp hx).1
    have lt2 := (List.getElem?_eq_some_iff.mp hy).1
    refine ⟨by rw [lr, sizeLine_eq]; omega, fun T hT => ⟨by omega, upd G' T (.tup [xv, y]), ?_, ?_, upd_same, ?_, ?_⟩⟩
    · exact (st.trans (Stp.imm m' hT)).over hS
    · have hTS : T ≠ S := fun e => by rw [e, hS'] at hT; cases hT
      exact (m'.imm hT).other (by rw [upd_ne (Ne.symm hTS)]; exact gS') mS
    · have hTS : T ≠ S := fun e => by rw [e, hS'] at hT; cases hT
      rw [upd_ne (Ne.symm hTS)]; exact gS'
    · have gx := Ext.new (m'.free hT).1 (o := .tup [xv, y])
      obtain ⟨dx, ex⟩ : ∃ dx, xs[i]? = some dx := ⟨_, List.getElem?_eq_getElem (by omega)⟩
      obtain ⟨dy, ey⟩ : ∃ dy, ys[i]? = some dy := ⟨_, List.getElem?_eq_getElem (by omega)⟩
      obtain ⟨x', ex', rx⟩ := Reps.get rsa (i := i) (a := .d dx) (by rw [List.getElem?_map, ex]; rfl)
      obtain ⟨y', ey', ry⟩ := Reps.get rsb (i := i) (a := .d dy) (by rw [List.getElem?_map, ey]; rfl)
      rw [hx] at ex'
      rw [hy] at ey'
      cases ex'
      cases ey'
      have e1 : (zipD xs ys)[i]? = some (.tuple [dx, dy]) := by rw [zg, show (xs.zip ys)[i]? = some (dx, dy) from List.getElem?_zip_eq_some.mpr ⟨ex, ey⟩]; rfl
      rw [List.take_add_one, e1, List.map_append]
      refine Reps.append (Reps.ext gx rs) (.cons ?_ .nil)
      show Dp X.K _ _ _
      have gx2 := st.ex.trans gx
      exact .tup (SqT.of upd_same) (.cons (rx.ext gx2) (.cons (ry.ext gx2) .nil))
  · obtain ⟨hi, G', st, m', hS', gS', rs⟩ := hP
    exact ⟨hS', Ext.sqT (st.ex.trans m'.sub) hsa, Ext.sqT (st.ex.trans m'.sub) hsb⟩
  · obtain ⟨hi, G', st, m', hS', gS', rs⟩ := hP
    rw [← zl, List.take_length] at rs
    have st2 := s1.trans st
    exact po (.ref S) (lv (zipD xs ys)) _ μ1 H' q (st2.adopt (s1.back hS) gS') (m'.adopt hS' gS' mS) (show Dp X.K _ _ _ from .lst (SqL.of upd_same) (reps_dpAll (Reps.ext (Ext.new gS') rs)))
end K87
end

section
set_option Elab.async false
set_option linter.all false
set_option maxRecDepth 100000
set_option maxHeartbeats 2100000
set_option autoImplicit false
namespace K87
open PySem PySem.Spec PySem.W PyProof.Rows L2
section
variable {prog : Program} {w : World} {A : Around} {E : Value → Shared → Prop} {sh : Shared}
theorem collect_tuple {l : Addr} {vs : List Value} {Q : List Value → Shared → Prop} (hl : sh.heap.IsTuple l vs.toArray)
    (h : Q vs { sh with heap := (sh.heap.push (seqObj "list" #[] 0)).update sh.heap.objs.size (Obj.mapSeq (· ++ vs.toArray)) }) (hsz : vs.length ≤ sizeLine) :
    wpAny (model prog w) A (collect (.ref l)) Q E sh := by
  (obtain ⟨o, ho, hc, n, hd⟩ := id hl); unfold collect
  (refine wpAny_bind (wpAny_runValue (codeAny_builtin entry_proto_collect' ?_))); show wpAny _ _ (do again (.builtin "list.__iadd__" ⟨[← newList [], .ref l], []⟩)) _ _ sh
  (refine wpAny_bind (wpAny_newList (wpAny_pure ⟨Code.quiet_builtin _ (by decide +kernel), codeAny_builtin entry_list_iadd' ?_⟩))); show wpAny _ _ (Builtin.List.listExtendWith (.ref sh.heap.objs.size) (.ref l) (.ref sh.heap.objs.size)) _ _ { sh with heap := sh.heap.push (seqObj "list" #[] 0) }
  (unfold Builtin.List.listExtendWith); have ho' : (sh.heap.push (seqObj "list" #[] 0)).get? l = some o := Heap.get?_push_of_some _ ho
  refine wpAny_bind (wpAny_typeOf (T := "tuple") ⟨o, ho', hc⟩ ?_)
  have ht : (Value.type "tuple" == Value.type "tuple") = true := by rfl
  (rw [if_pos (by rw [ht]; simp)]); refine wpAny_bind (listItems_at ho' hd ?_)
  (refine wpAny_bind (listItems_at (xs := #[]) (n := 0) (Heap.get?_push_size _ rfl) rfl ?_)); rw [if_neg (by simp)]
  (refine wpAny_bind (listUpdate_at (xs := #[]) (n := 0) (Heap.get?_push_size _ rfl) rfl ?_ (Nat.zero_le _) (by show (#[] ++ vs.toArray).size ≤ sizeLine + 1; simp only [Array.size_append, List.size_toArray, List.length_nil]; omega))); refine wpAny_pure ?_
  show wpAny (model prog w) A ((do
      let o ← load sh.heap.objs.size
      match o.data with
      | .seq xs _ => pure xs.toList
      | _ => unsupported "internal:collect")) Q E { sh with heap := (sh.heap.push (seqObj "list" #[] 0)).update sh.heap.objs.size (Obj.mapSeq (· ++ vs.toArray)) }
  (refine wpAny_bind (wpAny_load (get?_update_seq (Heap.get?_push_size _ rfl) _) ?_)); show wpAny _ _ (pure ((#[] : Array Value) ++ vs.toArray).toList) Q E _
  (rw [show ((#[] : Array Value) ++ vs.toArray).toList = vs by simp]); exact wpAny_pure h
end
end K87
namespace SrtO
open PySem PySem.Spec PySem.W PyProof.Rows
section
variable {prog : Program} {w : World} {A : Around} {E : Value → Shared → Prop} {sh : Shared}
theorem sorted_ordT {l : Addr} {vs : List Value} {ltv : Value → Value → Bool} {Q : Value → Shared → Prop} (O : Swo ltv) (hl : sh.heap.IsTuple l vs.toArray) (hz : vs.length ≤ sizeLine)
    (hS : 2 ≤ vs.length → ∀ (g₁ : Heap) (a : Addr), g₁.get? a = some (seqObj "list" vs.toArray 0) → (∀ b o, sh.heap.get? b = some o → b ≠ a ∧ g₁.get? b = some o) → SortableO prog w A.in1.in1 { sh with heap := g₁ } a vs ltv)
    (h : ∀ out : List Value, Srtd ltv out → Stb ltv out vs → Q (.ref (sh.heap.objs.size + 1)) { sh with heap := sortedAll sh.heap vs out.toArray }) :
    wpAny (model prog w) A (call (.builtin "sorted") [.ref l]) Q E sh := by
  (refine Calls.call_function_entry kind_sorted plain_sorted entry_sorted (args_sorted1 _) ?_); unfold Builtin.«sorted»
  (refine wpAny_bind (m := checkCount "sorted" 1 1 _) (wpAny_pure ?_)); refine wpAny_bind (K87.collect_tuple hl ?_ hz)
  (refine wpAny_bind (wpAny_newList ?_ hz)); have hsz : ((sh.heap.push (seqObj "list" #[] 0)).update sh.heap.objs.size (Obj.mapSeq (· ++ vs.toArray))).objs.size = sh.heap.objs.size + 1 := by rw [Heap.size_update, size_push']
  have hoL : (((sh.heap.push (seqObj "list" #[] 0)).update sh.heap.objs.size (Obj.mapSeq (· ++ vs.toArray))).push (seqObj "list" vs.toArray 0)).get? (sh.heap.objs.size + 1) = some (seqObj "list" vs.toArray 0) := by rw [← hsz]; exact Heap.get?_push_size _ rfl
  have keep : ∀ b o, sh.heap.get? b = some o → b ≠ sh.heap.objs.size + 1 ∧ (((sh.heap.push (seqObj "list" #[] 0)).update sh.heap.objs.size (Obj.mapSeq (· ++ vs.toArray))).push (seqObj "list" vs.toArray 0)).get? b = some o := fun b o q => by
    have hlt : b < sh.heap.objs.size := Heap.lt_size q
    (refine ⟨Nat.ne_of_lt (Nat.lt_succ_of_lt hlt), Heap.get?_push_of_some _ ?_⟩); rw [Heap.get?_update_ne _ _ _ _ (Nat.ne_of_lt hlt)]
    exact (Heap.get?_push_of_some _ q)
  show wpAny _ _ _ _ _ { sh with heap := ((sh.heap.push (seqObj "list" #[] 0)).update sh.heap.objs.size (Obj.mapSeq (· ++ vs.toArray))).push (seqObj "list" vs.toArray 0) }
  rw [hsz]
  (refine wpAny_bind (wpAny_holding (wpAny_call_entry slot_list_sort ⟨_, hoL, rfl⟩ entry_list_sort (list_sort_ord O hoL hz (fun h2 => hS h2 _ _ hoL keep) fun out hs hb => ⟨_, rfl, ?_⟩) (args_list_sort _)))); exact wpAny_pure ⟨_, rfl, h out hs hb⟩
theorem sorted_pairsT {l : Addr} {vs : List Value} {k : Value → Int × Int} {Q : Value → Shared → Prop} (hl : sh.heap.IsTuple l vs.toArray) (hz : vs.length ≤ sizeLine) (hp : ∀ v ∈ vs, Srt.IsPair sh.heap v (k v).1 (k v).2)
    (h : ∀ (h' : Heap) (d : Addr) (out : List Value), Srtd (fun v u => lexB (k v) (k u)) out → Stb (fun v u => lexB (k v) (k u)) out vs → (∀ b o, sh.heap.get? b = some o → h'.get? b = some o) → sh.heap.objs.size ≤ d → (∃ n, h'.get? d = some (seqObj "list" out.toArray n)) → Q (.ref d) { sh with heap := h' }) :
    wpAny (model prog w) A (call (.builtin "sorted") [.ref l]) Q E sh := by
  refine sorted_ordT (swo_lex k) hl hz (fun h2 g₁ a ha kk => ?_) fun out hs hb => ?_
  · refine pairs_sortableO (s := { sh with heap := g₁ }) (by omega) (fun v hm => (hp v hm).keeps fun b o e _ => (kk b o e).2) fun o e => ?_
    (have e' : some o = some (seqObj "list" vs.toArray 0) := e.symm.trans ha); cases e'
    intro cv
    exact absurd (Value.type.inj cv) (by decide)
  · exact h _ _ out hs hb (fun b o e => sortedAll_old e) (Nat.le_succ _) (sortedAll_at sh.heap vs out.toArray)
end
end SrtO

namespace K87
open PySem PySem.Spec PySem.W PyProof.Rows L2 K87M
/-- a pair of ints, wherever it stands -/
def KP (K : PySem.W.Frag) (H : Hp) (v : V) (p : Int × Int) : Prop := ∃ t, v = .ref t ∧ SqT K H t [.int p.1, .int p.2]
/-- sorted of pairs of ints, in a list or a tuple -/
def rSortedPS (K : PySem.W.Frag) : List V → Hp → VK → Prop := fun vs H Q => ∃ (a : Addr) (xs : List V) (ps : List (Int × Int)), vs = [V.ref a] ∧ (SqL K H a xs ∨ SqT K H a xs) ∧ Paired (KP K H) xs ps ∧
  ∀ (zs : List (V × (Int × Int))) (p : Addr), zs.Perm (xs.zip ps) → ((zs.map (·.2)).Pairwise fun p q => SrtO.lexB q p = false) → H p = none → Q (.ref p) (upd H p (.lst (zs.map (·.1))))
/-- the ints that stand at a pair -/
def kOf (h : Heap) (u : Value) : Int × Int := match u with
  | .ref ad => match h.get? ad with
    | some o => match o.data with
      | .seq xs _ => match xs.toList with
        | [.int xv _, .int y _] => (xv, y)
        | _ => (0, 0)
      | _ => (0, 0)
    | none => (0, 0)
  | _ => (0, 0)
theorem kp_at {X : Cx} {pins : List (Addr × Obj)} {sh : Shared} {σ : L2.St} {H : Hp} {v : V} {p : Int × Int} {u : Value} (I : Inv X pins σ H sh) (r : RelV v u) (h : KP X.K H v p) : Srt.IsPair sh.heap u (kOf sh.heap u).1 (kOf sh.heap u).2 ∧ kOf sh.heap u = p ∧ (∃ a, u = .ref a) ∧ backV u = v := by
  obtain ⟨t, rfl, ht⟩ := h
  obtain ⟨its, rv, ⟨o, ho, hc, n, hd⟩, _⟩ := I.tuple ht
  (obtain rfl : u = Value.ref t := r); obtain ⟨u1, u2, rfl, ri, rj⟩ := vals2 rv
  obtain ⟨t1, rfl⟩ := ri
  obtain ⟨t2, rfl⟩ := rj
  have e : kOf sh.heap (.ref t) = p := by
    unfold kOf
    simp only [ho, hd]
  rw [e]
  exact ⟨⟨t, o, t1, t2, n, rfl, ho, hc, hd⟩, rfl, ⟨t, rfl⟩, rfl⟩
theorem kp_all {X : Cx} {pins : List (Addr × Obj)} {sh : Shared} {σ : L2.St} {H : Hp} (I : Inv X pins σ H sh) : ∀ {xs : List V} {us : List Value} {ps : List (Int × Int)}, Vals xs us → Paired (KP X.K H) xs ps →
    (∀ u ∈ us, Srt.IsPair sh.heap u (kOf sh.heap u).1 (kOf sh.heap u).2 ∧ (∃ a, u = .ref a)) ∧ us.map (fun u => (backV u, kOf sh.heap u)) = xs.zip ps
  | _, _, _, .nil, .nil => ⟨fun u hu => absurd hu (by simp), rfl⟩
  | xv :: xs, u :: us, p :: ps, .cons r t, .cons q qs => by
    obtain ⟨h1, h2⟩ := kp_all I t qs
    obtain ⟨g1, g2, g3, g4⟩ := kp_at I r q
    (refine ⟨fun v hv => ?_, by rw [List.map_cons, g2, h2, g4]; rfl⟩); rcases List.mem_cons.mp hv with e | hv
    · subst e
      exact ⟨g1, g3⟩
    · exact h1 v hv
theorem cr_sortedPS {X : Cx} : CallR X (.builtin "sorted") (rSortedPS X.K) := by
  intro pins sh σ H vs us Q I r h
  obtain ⟨a, xs, ps, rfl, hs, hp, q⟩ := h
  (obtain ⟨u, rfl, ru⟩ := vals1 r); obtain rfl : u = Value.ref a := ru
  have fin : ∀ (its : List Value), Vals xs its → xs.length ≤ sizeLine → ∀ (h' : Heap) (d : Addr) (out : List Value), SrtO.Srtd (fun v u => SrtO.lexB (kOf sh.heap v) (kOf sh.heap u)) out → SrtO.Stb (fun v u => SrtO.lexB (kOf sh.heap v) (kOf sh.heap u)) out its → (∀ b o, sh.heap.get? b = some o → h'.get? b = some o) → sh.heap.objs.size ≤ d → (∃ n, h'.get? d = some (seqObj "list" out.toArray n)) → EP X pins σ Q (.ref d) { sh with heap := h' } := by
    intro its rv hz h' d out h1 h2 kp hd hn
    obtain ⟨k1, k2⟩ := kp_all I rv hp
    obtain ⟨n, hn⟩ := hn
    have h3 : ∀ u ∈ out, ∃ a, u = Value.ref a := fun u hu => (k1 u (h2.perm.mem_iff.mp hu)).2
    have e1 : (out.map fun u => (backV u, kOf sh.heap u)).map (·.1) = out.map backV := by rw [List.map_map]; rfl
    have e2 : (out.map fun u => (backV u, kOf sh.heap u)).map (·.2) = out.map (kOf sh.heap) := by rw [List.map_map]; rfl
    have := q (out.map fun u => (backV u, kOf sh.heap u)) d (by rw [← k2]; exact h2.perm.map _) (by rw [e2, List.pairwise_map]; exact h1) (I.hok.fresh hd)
    rw [e1] at this
    refine ⟨.ref d, upd H d (.lst (out.map backV)), I.laid (t' := sh.toks) kp hd ⟨?_, out, n, vals_back h3, hn⟩, rfl, this⟩
    rw [List.length_map, h2.perm.length_eq, ← rv.length]; exact hz
  rcases hs with hs | hs
  · obtain ⟨its, rv, hl, hz⟩ := I.list hs
    exact SrtO.sorted_pairsO (k := kOf sh.heap) hl.isList (by rw [← rv.length]; exact hz) (fun v hv => ((kp_all I rv hp).1 v hv).1) (fin its rv hz)
  · obtain ⟨its, rv, hl, hz⟩ := I.tuple hs
    exact SrtO.sorted_pairsT (k := kOf sh.heap) (show sh.heap.IsTuple a its.toArray from hl) (by rw [← rv.length]; exact hz) (fun v hv => ((kp_all I rv hp).1 v hv).1) (fin its rv hz)
/-! over data -/
def prI (r : Int × Nat) : Int × Int := (r.1, (r.2 : Int))
theorem kp_reps {K : PySem.W.Frag} {G H : Hp} (ex : Ext G H) : ∀ {xs : List V} {rs : List (Int × Nat)}, Reps K G xs (rs.map fun r => .d (runD r)) → Paired (KP K H) xs (rs.map prI)
  | _, [], h => by cases h; exact .nil
  | _, r :: rs, h => by
    cases h with
    | cons h t =>
      obtain ⟨p, vs, rfl, hs, rv⟩ := rep_tup (ds := [.int r.1, .int r.2]) h
      obtain ⟨v1, v2, rfl, r1, r2⟩ := reps2 rv
      rw [rep_int r1, rep_int r2] at hs
      exact .cons ⟨p, rfl, Ext.sqT ex hs⟩ (kp_reps ex t)
theorem srt_read {qs : List (Int × Int)} {rs : List (Int × Nat)} (h : qs.Perm (rs.map prI)) (sh : qs.Pairwise fun p q => SrtO.lexB q p = false) : qs = (srt rs).map prI := by
  have key : ∃ m : List (Int × Nat), qs = m.map prI := by
    refine ⟨qs.map fun p => (p.1, p.2.toNat), ?_⟩
    rw [List.map_map]
    have : ∀ p ∈ qs, (prI ∘ fun p : Int × Int => (p.1, p.2.toNat)) p = p := fun p hp => by
      obtain ⟨r, _, e⟩ := List.mem_map.mp (h.mem_iff.mp hp)
      subst e
      rfl
    rw [List.map_congr_left this, List.map_id']
  obtain ⟨m, rfl⟩ := key
  have inj : ∀ a b : Int × Nat, prI a = prI b → a = b := fun a b e => by
    unfold prI at e
    injection e with e1 e2
    exact Prod.ext e1 (by omega)
  have pm : m.Perm rs := by
    have := h.map fun p : Int × Int => ((p.1, p.2.toNat) : Int × Nat)
    rw [List.map_map, List.map_map] at this
    have e : ∀ l : List (Int × Nat), l.map ((fun p : Int × Int => ((p.1, p.2.toNat) : Int × Nat)) ∘ prI) = l := fun l => by
      rw [List.map_congr_left (g := id) (fun xv _ => by show ((xv.1, ((xv.2 : Int)).toNat) : Int × Nat) = xv; rw [Int.toNat_natCast]), List.map_id]
    rw [e, e] at this
    exact this
  rw [srt_uniq pm (by
    rw [List.pairwise_map] at sh
    refine sh.imp fun {a b} hab => ?_
    have := SrtO.lexB_no.mp hab
    unfold prI at this
    refine lexLe_iff.mpr ?_
    simp only at this
    omega)]
theorem prI_inj {a b : Int × Nat} (e : prI a = prI b) : a = b := by
  unfold prI at e
  injection e with e1 e2
  exact Prod.ext e1 (by omega)
theorem zip_reps {K : PySem.W.Frag} {G : Hp} : ∀ {xs : List V} {rs : List (Int × Nat)}, Reps K G xs (rs.map fun r => .d (runD r)) → ∀ zz ∈ xs.zip (rs.map prI), ∃ r, zz.2 = prI r ∧ Rep K G zz.1 (.d (runD r))
  | _, [], h, zz, hz => by cases h; cases hz
  | _, r :: rs, h, zz, hz => by
    cases h with
    | cons h t =>
      (rw [List.map_cons, List.zip_cons_cons] at hz); rcases List.mem_cons.mp hz with e | hz
      · subst e; exact ⟨r, rfl, h⟩
      · exact zip_reps t zz hz
theorem reps_sorted {K : PySem.W.Frag} {G : Hp} : ∀ {zs : List (V × (Int × Int))} {ms : List (Int × Nat)}, (∀ zz ∈ zs, ∃ r, zz.2 = prI r ∧ Rep K G zz.1 (.d (runD r))) → zs.map (·.2) = ms.map prI → Reps K G (zs.map (·.1)) (ms.map fun r => .d (runD r))
  | [], [], _, _ => .nil
  | [], _ :: _, _, e => by cases e
  | _ :: _, [], _, e => by cases e
  | zz :: zs, m :: ms, h, e => by
    (rw [List.map_cons, List.map_cons] at e); injection e with e1 e2
    obtain ⟨r, h1, h2⟩ := h zz (List.mem_cons_self ..)
    have : r = m := prI_inj (h1.symm.trans e1)
    subst this
    exact .cons h2 (reps_sorted (fun y hy => h y (List.mem_cons_of_mem _ hy)) e2)
section
variable {X : Cx} {E : XK} {F : KF} {ρ : Env'} {μ : Mu} {k : KV'} {a : Expr} {p1 pos : Pos}
theorem zip_snd {α β : Type} : ∀ {xs : List α} {ys : List β}, xs.length = ys.length → (xs.zip ys).map (·.2) = ys
  | [], [], _ => rfl
  | _ :: _, _ :: _, h => by
    rw [List.zip_cons_cons, List.map_cons, zip_snd (Nat.succ.inj h)]
/-- sorted of pairs -/
theorem d_sortedP (hg : Gl X "sorted") (hm : X.mg "sorted" = none) (h : dE X E F a ρ μ fun y μ1 => ∃ (xs : List AV) (rs : List (Int × Nat)), SeqA μ1 y xs ∧ xs = rs.map (fun r => .d (runD r)) ∧ k (lv ((srt rs).map runD)) μ1)
    (hs1 : starEach [a] X.env = (false, eval a X.env) :: starEach [] X.env := by rfl) (hpl : (backTo pos (starEach [] X.env)).any (·.1) = false := by rfl) :
    dE X E F (.Call (.Name "sorted" p1) [a] [] pos) ρ μ k :=
  d_callB cr_sortedPS hg hm (by decide +kernel) (d_cons (h.mono fun y μ1 ⟨xs, rs, hx, e, q⟩ => d_nil fun vs G H r m Q po => by
    subst e
    obtain ⟨v, rfl, rv⟩ := reps1 r
    obtain ⟨p, vs, rfl, hs, rs'⟩ := hx.at m rv
    have hl := Reps.len rs'
    rw [List.length_map] at hl
    refine ⟨p, vs, rs.map prI, rfl, hs, kp_reps m.sub rs', fun zs p' hz hp hn => ?_⟩
    have e := srt_read (rs := rs) (qs := zs.map (·.2)) (by
      have := hz.map (·.2)
      rw [zip_snd (by rw [List.length_map]; exact hl)] at this
      exact this) hp
    have rz : Reps X.K G (zs.map (·.1)) ((srt rs).map fun r => .d (runD r)) := reps_sorted (fun zz hzm => zip_reps rs' zz (hz.mem_iff.mp hzm)) e
    exact NewL.go (.inl ⟨(srt rs).map runD, by rw [List.map_map]; rfl, q⟩) m rz po hn) hs1) (he := hs1) (hpl := hpl)
/-- sorted of ints -/
theorem d_sortedI (hg : Gl X "sorted") (hm : X.mg "sorted" = none) (h : dE X E F a ρ μ fun y μ1 => ∃ (ns : List Int), LstA μ1 y (ns.map iv) ∧ ∀ ms : List Int, ms.Perm ns → ms.Pairwise (· ≤ ·) → k (lv (ms.map .int)) μ1)
    (hs1 : starEach [a] X.env = (false, eval a X.env) :: starEach [] X.env := by rfl) (hpl : (backTo pos (starEach [] X.env)).any (·.1) = false := by rfl) :
    dE X E F (.Call (.Name "sorted" p1) [a] [] pos) ρ μ k :=
  d_callB cr_sortedI hg hm (by decide +kernel) (d_cons (h.mono fun y μ1 ⟨ns, hx, q⟩ => d_nil fun vs G H r m Q po => by
    obtain ⟨v, rfl, rv⟩ := reps1 r
    obtain ⟨p, vs, rfl, hs, rs'⟩ := hx.at m rv
    rw [reps_ints rs'] at hs
    refine ⟨p, ns, rfl, hs, fun ms p' h1 h2 hn => ?_⟩
    have rz : ∀ l : List Int, Reps X.K G (l.map V.int) ((l.map PyData.int).map .d) := fun l => by
      induction l with
      | nil => exact .nil
      | cons n l ih => exact .cons (ri n) ih
    exact NewL.go (.inl ⟨ms.map .int, rfl, q ms h1 h2⟩) m (rz ms) po hn) hs1) (he := hs1) (hpl := hpl)
end
end K87
end

section
set_option Elab.async false
set_option linter.all false
set_option maxRecDepth 100000
set_option maxHeartbeats 2100000
set_option autoImplicit false
namespace K87
open PySem PySem.Spec PySem.W PyProof.Rows L2
theorem enumT_meets (l : Addr) (items : Array Value) :
    Meets (Builtin.«enumerate.__new__» ⟨[.type "enumerate", .ref l], []⟩) (fun _ R sh => sh.heap.IsTuple l items ∧
      R (.ok (.ret (.ref (sh.heap.push { cls := .type "tuple_iterator", data := .fields #[.ref l, .int 0 0] }).objs.size)))
        { sh with heap := (sh.heap.push { cls := .type "tuple_iterator", data := .fields #[.ref l, .int 0 0] }).push { cls := .type "enumerate", data := .fields #[.none, .bool false, .ref sh.heap.objs.size, rawInt 0, .none, .none] } }) :=
  .of_wp fun prog w A R sh h => by
    obtain ⟨hp, g, d, tk, os⟩ := sh; obtain ⟨hl, h⟩ := h
    have hsub := sub_enumerate
    have q1 : Heap.IsTuple (Shared.heap ⟨hp, g, d, tk, os⟩) l items := hl
    wp_walk using wpAny_pyIter_tuple q1
    (refine wpAny_stack_any fun st => wpAny_pure ?_); split
    · rename_i cv _ _ _ _ _
      cases (cv == Value.type "enumerate")
      · wp_walk using wpAny_pyIter_tuple q1
        exact ⟨_, rfl, h⟩
      · wp_walk using wpAny_pyIter_tuple q1
        exact ⟨_, rfl, h⟩
    · wp_walk using wpAny_pyIter_tuple q1
      exact ⟨_, rfl, h⟩
section
variable {prog : Program} {w : World} {A : Around} {E : Value → Shared → Prop} {sh : Shared}
theorem call_enumT {l : Addr} {items : Array Value} {Q : Value → Shared → Prop} (hL : sh.heap.IsTuple l items)
    (h : ∀ h', IsEnum h' (sh.heap.objs.size + 1) sh.heap.objs.size 0 .none → h'.IsTupleIter sh.heap.objs.size l 0 → h'.objs.size = sh.heap.objs.size + 2 →
      (∀ b o, sh.heap.get? b = some o → h'.get? b = some o) → Q (.ref (sh.heap.objs.size + 1)) { sh with heap := h' }) :
    wpAny (model prog w) A (call (.type "enumerate") [.ref l]) Q E sh := by
  refine callType_new F.called_enumerate (by decide) (F.typeCall_enumerate_1 _) (F.newCall_enumerate_1 _) (fun ob => F.args_object_init_2 ob _) F.entry_enumerate_new
    (enumT_meets l items) ⟨hL, ?_⟩
  have hz : (sh.heap.push { cls := .type "tuple_iterator", data := .fields #[.ref l, .int 0 0] }).objs.size = sh.heap.objs.size + 1 := Heap.size_push ..
  show _ ∧ _
  rw [hz]
  have he : IsEnum ((sh.heap.push { cls := .type "tuple_iterator", data := .fields #[.ref l, .int 0 0] }).push
      { cls := .type "enumerate", data := .fields #[.none, .bool false, .ref sh.heap.objs.size, rawInt 0, .none, .none] }) (sh.heap.objs.size + 1) sh.heap.objs.size 0 .none := by
    have := Heap.get?_push_size (sh.heap.push { cls := .type "tuple_iterator", data := .fields #[.ref l, .int 0 0] })
      (o := { cls := .type "enumerate", data := .fields #[.none, .bool false, .ref sh.heap.objs.size, rawInt 0, .none, .none] }) rfl
    rw [hz] at this; exact this
  refine ⟨⟨_, he, rfl⟩, h _ he ⟨_, Heap.get?_push_of_some _ (Heap.get?_push_size _ rfl), rfl, rfl⟩ (by rw [Heap.size_push, hz]) fun b o xv => Heap.get?_push_of_some _ (Heap.get?_push_of_some _ xv)⟩
end
/-- the tuple at a, each item in a new pair -/
def IteT (K : PySem.W.Frag) (a : Addr) : It :=
  ⟨fun i H => ∃ (xs : List V) (xv : V), SqT K H a xs ∧ xs[i]? = some xv, fun i H v H' => ∃ T xv, v = .ref T ∧ H T = none ∧ H' = upd H T (.tup [.int (i : Nat), xv]) ∧ ∀ xs, SqT K H a xs → xs[i]? = some xv, fun i H => ∃ xs : List V, SqT K H a xs ∧ xs.length ≤ i⟩
theorem turn_enumT {P : Program} {w : World} {K : PySem.W.Frag} {elts : List Expr} {kk : Nat} {tpos : Pos} (a e it : Addr) :
    Turn P w K (.Tuple elts kk tpos) (IteT K a) [e, it] e (fun i h => (∃ old, IsEnum h e it ((i : Nat) : Int) old) ∧ h.IsTupleIter it a i ∧ e ≠ it ∧ a ≠ it ∧ a ≠ e) where
  mem := by simp
  obj := fun i h st b hb => by
    (obtain ⟨⟨old, he⟩, ⟨o, ho, hc, hd⟩, _⟩ := st); have e' : b = e ∨ b = it := by simpa using hb
    rcases e' with zz | zz
    · rw [zz]; exact ⟨_, he, fun v q => nomatch q⟩
    · rw [zz]; exact ⟨o, ho, fun v q => by rw [hd] at q; cases q⟩
  keep := fun i h h' st k => let ⟨⟨old, he⟩, hi, hne, ha, hb⟩ := st; ⟨⟨old, k e (by simp) _ he⟩, hi.at fun o q => k it (by simp) o q, hne, ha, hb⟩
  item := by
    intro X hP hw hK hc i pins sh σ H E I hf st hg
    subst hP hw hK
    obtain ⟨⟨old, he⟩, hit, hne, hai, hae⟩ := st
    obtain ⟨xs, xv, hq, hx⟩ := hg
    (obtain ⟨its, rv, p, hz⟩ := I.tuple hq); obtain ⟨u, hu, ru⟩ := rv.get hx
    have hel : e < sh.heap.objs.size := Heap.lt_size he
    have hil : it < sh.heap.objs.size := by obtain ⟨_, q, _⟩ := hit; exact Heap.lt_size q
    have hlt : i < its.toArray.size := by
      rw [List.size_toArray]
      exact (List.getElem?_eq_some_iff.mp hu).1
    refine wpAny_pyNext_enum_itemD (Draws.tuple (prog := X.prog) (w := X.w) (A := X.A.in1) (I.ok.hd hc) it a hai its.toArray) he ⟨hit, show sh.heap.IsTuple a its.toArray from p⟩ hlt hne (by simp [hne, Ne.symm hae]) fun u' h' tk hPx ho hst hT hsz hk => ?_
    have eu : u' = u := by
      have : its.toArray[i]? = some u' := hPx
      rw [List.getElem?_toArray, hu] at this
      cases this; rfl
    subst eu
    have hit' := hst.1
    refine ⟨_, rfl, wpAny_letOwnedTupleGo_enum (s := { sh with heap := h', toks := tk + 1 }) ho fun h'' he' sb => ?_⟩
    have hT2 : h''.get? sh.heap.objs.size = some { cls := .type "tuple", data := .seq #[.int i tk, u'] } := (sb.2 _ (Nat.ne_of_gt hel)).trans hT
    have new : ObjOk X.prog X.w (upd H sh.heap.objs.size (.tup [.int (i : Nat), xv])) h'' sh.heap.objs.size (.tup [.int (i : Nat), xv]) :=
      ⟨by show 2 ≤ sizeLine; decide, [.int i tk, u'], .cons ⟨_, rfl⟩ (.cons ru .nil), ⟨_, hT2, rfl, _, rfl⟩⟩
    have I1 : Inv X pins σ (upd H sh.heap.objs.size (.tup [.int (i : Nat), xv])) { sh with heap := h'', toks := tk + 1 } :=
      I.turnedNew (ch := [e, it]) (fun b ob hb q => (sb.2 b (fun zz => hb (by simp [zz]))).trans (hk b ob (fun zz => hb (by simp [zz])) (fun zz => hb (by simp [zz])) q)) hf (Nat.le_refl _) new
    refine ⟨.ref sh.heap.objs.size, _, I1, rfl, ⟨_, xv, rfl, I.hok.fresh (Nat.le_refl _), rfl, fun ys hy => by rw [I.tuple_inj hy hq]; exact hx⟩, ⟨⟨u', ?_⟩, hit'.at fun o q => (sb.2 it (Ne.symm hne)).trans q, hne, hai, hae⟩, fun b hb => ?_⟩
    · have e1 : (((i + 1 : Nat) : Int) = (i : Int) + 1) := by omega
      rw [e1]; exact he'
    · have hb' : b < sh.heap.objs.size := by
        (have e' : b = e ∨ b = it := by simpa using hb); rcases e' with zz | zz
        · rw [zz]; exact hel
        · rw [zz]; exact hil
      (rw [upd_ne (Nat.ne_of_lt hb')]); exact (hf b hb).1
  done := by
    intro X hP hw hK hc i pins sh σ H E I hf st hg
    subst hP hw hK
    obtain ⟨⟨old, he⟩, hit, hne, hai, hae⟩ := st
    obtain ⟨xs, hq, hx⟩ := hg
    (obtain ⟨its, rv, p, hz⟩ := I.tuple hq); obtain ⟨f0, f1, f2, f3, f4, f5⟩ := hf it (by simp)
    have hl := rv.length
    have hT : sh.TypeIs (.ref e) "enumerate" := ⟨_, he, rfl⟩
    (unfold pyNext); refine wpAny_bind (wpAny_attempt (wpAny_callSpecial?_slot (name := Str.ofString "__next__") hT F.slot_enumerate_next
      (wpAny_call_entry F.slot_enumerate_next hT F.entry_enumerate_next ?_ (F.args_enumerate_next_1 (_)))))
    (show wpAny _ _ (field (.ref e) 2 >>= _) _ _ _); refine wpAny_bind (wpAny_field he rfl (x := .ref it) rfl ?_)
    refine wpAny_bind (wpAny_nextOf_tuple_end (I.ok.hd hc) hit (show sh.heap.IsTuple a its.toArray from p) (by simp; omega) fun h' xv he' hx' => ?_)
    obtain ⟨o, ho, hc'⟩ := hx'
    refine wpAny_bind (wpAny_isInstance (T := "StopIteration") (b := true) ⟨o, ho, hc'⟩ isSubtype_stop ?_)
    exact wpAny_pure ⟨rfl, I.turned (t' := sh.toks) (fun b o hb q => he' b o hb q) f0 f1 f3 f4 f5⟩
  self := fun A i sh Q E st h => let ⟨⟨_, he⟩, _⟩ := st; wpAny_pyIter_enum he h
def iEnumT (K : PySem.W.Frag) (ta : TA) : TI := fun σ H R => ta σ H fun vs H1 => ∃ a xs, vs = [.ref a] ∧ SqT K H1 a xs ∧ R (IteT K a) H1
theorem pi_enumT {X : Cx} {e : Expr} {ta : TA} {p pos tpos : Pos} {elts : List Expr} {kk : Nat} (hg : Gl X "enumerate") (hm : X.mg "enumerate" = none) (ha : PA X [e] ta) (hs : starEach [e] X.env = [(false, eval e X.env)] := by rfl) :
    PI X (.Tuple elts kk tpos) (.Call (.Name "enumerate" p) [e] [] pos) (iEnumT X.K ta) := by
  refine ⟨fun pins sh σ H R I h => ?_⟩
  refine Call_ (ld_blt I hg hm boot_enumerate (PyProof.Rows.callWith_type1 (thn (ha.run pos pins sh σ H _ I h) fun us s1 ⟨vs, H1, I1, r1, q1⟩ => ?_) hs rfl))
  (obtain ⟨a, xs, ex, hq, q⟩ := q1); subst ex
  cases r1 with
  | cons r rr =>
    cases rr
    cases r
    obtain ⟨its, rv, p', hz⟩ := I1.tuple hq
    obtain ⟨o1, ho1, _⟩ := id p'
    have hal := Heap.lt_size ho1
    refine call_enumT (show s1.heap.IsTuple a its.toArray from p') fun h' he hit hsz hk => wpAny_pyIter_enum he ?_
    (have I2 : Inv X pins σ H1 { s1 with heap := h' } := I1.kept (t' := s1.toks) hk); refine ⟨s1.heap.objs.size + 1, [s1.heap.objs.size + 1, s1.heap.objs.size], _, _, H1, rfl, I2, turn_enumT a (s1.heap.objs.size + 1) s1.heap.objs.size, ⟨⟨.none, he⟩, hit, Nat.succ_ne_self _, Nat.ne_of_lt hal, Nat.ne_of_lt (Nat.lt_succ_of_lt hal)⟩, fun b hb => ?_, q⟩
    (have e' : b = s1.heap.objs.size + 1 ∨ b = s1.heap.objs.size := by simpa using hb); have hlb : s1.heap.objs.size ≤ b := by
      rcases e' with zz | zz
      · rw [zz]; exact Nat.le_add_right _ _
      · rw [zz]; exact Nat.le_refl _
    exact I1.fpOk hlb (I1.hok.fresh hlb)
end K87
end

section
set_option Elab.async false
set_option linter.all false
set_option maxRecDepth 100000
set_option maxHeartbeats 1100000
set_option autoImplicit false
namespace K87
open PySem L2
/-- what enumerate hands out at i for an item -/
def enA (i : Nat) : AV → AV
  | .d x => tv [.int (i : Int), x]
  | .v y => .e (i : Int) y
  | .e _ _ => .v .non
def enAll (xs : List AV) : List AV := xs.mapIdx enA
theorem enAll_get {xs : List AV} {i : Nat} {a : AV} (h : (enAll xs)[i]? = some a) : ∃ b, xs[i]? = some b ∧ a = enA i b := by
  unfold enAll at h
  rw [List.getElem?_mapIdx] at h
  cases e : xs[i]? with
  | none => (rw [e] at h; cases h)
  | some b => rw [e] at h; cases h; exact ⟨b, rfl, rfl⟩
theorem enAll_len (xs : List AV) : (enAll xs).length = xs.length := by unfold enAll; simp
theorem en_yld {K : PySem.W.Frag} {G H : Hp} {μ : Mu} {i : Nat} {b : AV} {u : V} {T : Addr} (m : MOk K G μ H) (r : Rep K G u b) (hb : ∀ j y, b ≠ .e j y) (hT : H T = none) :
    ∃ G2, Stp G μ H G2 μ (upd H T (.tup [.int (i : Nat), u])) ∧ MOk K G2 μ (upd H T (.tup [.int (i : Nat), u])) ∧ Rep K G2 (.ref T) (enA i b) := by
  have gx := Ext.new (m.free hT).1 (o := .tup [.int (i : Nat), u])
  refine ⟨_, Stp.imm m hT, m.imm hT, ?_⟩
  cases b with
  | d x =>
    show Dp K _ _ _
    exact .tup (SqT.of upd_same) (.cons (ri _) (.cons (r.ext gx) .nil))
  | v y =>
    cases r
    exact ⟨T, rfl, SqT.of upd_same⟩
  | e j y => exact absurd rfl (hb j y)
section
variable {X : Cx} {E : XK} {F : KF} {ρ : Env'} {μ : Mu} {kI : List AV → (Mu → Prop) → Mu → Prop} {e : Expr} {p pos tpos : Pos} {elts : List Expr} {kk : Nat}
theorem i_enumL (hg : Gl X "enumerate") (hm : X.mg "enumerate" = none) (h : dE X E F e ρ μ fun y μ1 => ∃ xs, LstA μ1 y xs ∧ (∀ x ∈ xs, ∀ j z, x ≠ .e j z) ∧ kI (enAll xs) (fun μ' => LstA μ' y xs) μ1)
    (hs : starEach [e] X.env = (false, eval e X.env) :: starEach [] X.env := by rfl) : dI X E F (.Tuple elts kk tpos) (.Call (.Name "enumerate" p) [e] [] pos) ρ μ kI := fun σ G H sr m pf R po => by
  refine w_pi (pi_enum hg hm (pa_cons pe_w pa_nil hs) hs) ?_
  refine h σ G H sr m pf _ fun v y G1 μ1 H1 h1 s1 m1 r => ?_
  obtain ⟨xs, hx, hne, q⟩ := h1
  obtain ⟨a, vs, rfl, hsq, rs⟩ := hx.at m1 r
  refine ⟨a, vs, rfl, hsq, po _ _ _ G1 μ1 H1 q s1 m1 ⟨fun i H2 G2 μ2 m2 ex hy hi => ?_, fun i H2 G2 μ2 m2 ex hy hi => ?_, fun i H2 v H' G2 μ2 x m2 ex hy hx' hyl => ?_⟩⟩
  · obtain ⟨p', vs', e, hs', rs'⟩ := hy.at m2 (r.ext ex)
    cases e
    have hl := Reps.len rs'
    rw [enAll_len] at hi
    exact ⟨vs', vs'[i], hs', List.getElem?_eq_getElem (by omega)⟩
  · obtain ⟨p', vs', e, hs', rs'⟩ := hy.at m2 (r.ext ex)
    cases e
    have hl := Reps.len rs'
    rw [enAll_len] at hi
    exact ⟨vs', hs', by omega⟩
  · obtain ⟨p', vs', e, hs', rs'⟩ := hy.at m2 (r.ext ex)
    cases e
    obtain ⟨T, u, rfl, hT, rfl, hh⟩ := hyl
    obtain ⟨b, hb, rfl⟩ := enAll_get hx'
    obtain ⟨w, hw, rw'⟩ := Reps.get rs' hb
    have := hh vs' hs'
    rw [hw] at this
    cases this
    exact en_yld m2 rw' (hne b (List.mem_of_getElem? hb)) hT
theorem i_enumT (hg : Gl X "enumerate") (hm : X.mg "enumerate" = none) (h : dE X E F e ρ μ fun y μ1 => ∃ ds, y = tv ds ∧ kI (enAll (ds.map .d)) (fun _ => True) μ1)
    (hs : starEach [e] X.env = (false, eval e X.env) :: starEach [] X.env := by rfl) : dI X E F (.Tuple elts kk tpos) (.Call (.Name "enumerate" p) [e] [] pos) ρ μ kI := fun σ G H sr m pf R po => by
  refine w_pi (pi_enumT hg hm (pa_cons pe_w pa_nil hs) hs) ?_
  refine h σ G H sr m pf _ fun v y G1 μ1 H1 h1 s1 m1 r => ?_
  obtain ⟨ds, rfl, q⟩ := h1
  obtain ⟨a, vs, rfl, hsq, rs⟩ := rep_tup r
  have hl := Reps.len rs
  rw [List.length_map] at hl
  refine ⟨a, vs, rfl, Ext.sqT m1.sub hsq, po _ _ _ G1 μ1 H1 q s1 m1 ⟨fun i H2 G2 μ2 m2 ex _ hi => ?_, fun i H2 G2 μ2 m2 ex _ hi => ?_, fun i H2 v H' G2 μ2 x m2 ex _ hx' hyl => ?_⟩⟩
  · rw [enAll_len, List.length_map] at hi
    exact ⟨vs, vs[i], Ext.sqT (ex.trans m2.sub) hsq, List.getElem?_eq_getElem (by omega)⟩
  · rw [enAll_len, List.length_map] at hi
    exact ⟨vs, Ext.sqT (ex.trans m2.sub) hsq, by omega⟩
  · obtain ⟨T, u, rfl, hT, rfl, hh⟩ := hyl
    obtain ⟨b, hb, rfl⟩ := enAll_get hx'
    obtain ⟨w, hw, rw'⟩ := Reps.get rs hb
    have := hh vs (Ext.sqT (ex.trans m2.sub) hsq)
    rw [hw] at this
    cases this
    rw [List.getElem?_map] at hb
    cases e : ds[i]? with
    | none => rw [e] at hb; cases hb
    | some d =>
      rw [e] at hb
      cases hb
      exact en_yld m2 (rw'.ext ex) (fun _ _ z => nomatch z) hT
/-- the target of an enumerate -/
theorem g_en {X : Cx} {E : XK} {F : KF} {ρ : Env'} {μ : Mu} {es : List Expr} {pos : Pos} {j n : Nat} {y : AV} {kS : Env' → Mu → Prop} (hc : X.calm = true) (h : ∃ (i : Int) (z : V), y = .e i z ∧ n = 2 ∧ dGs X E F es [iv i, .v z] ρ μ kS) (hn : (assignEach es X.env).length = n := by rfl) (hst : (assignEach es X.env).findIdx? (·.1) = none := by rfl) : dG X E F (.Tuple es j pos) y ρ μ kS := fun v σ G H r sr m pf Q po => by
  obtain ⟨i, z, rfl, rfl, h⟩ := h
  refine w_pg (pg_tup hc pgs_w hn hst) ?_
  obtain ⟨p, rfl, hs⟩ := r
  exact ⟨p, _, rfl, Ext.sqT m.sub hs, rfl, h _ σ G H (.cons (ri i) (.cons rfl .nil)) sr m pf Q po⟩
end
end K87
end

section
set_option Elab.async false
set_option linter.all false
set_option maxRecDepth 100000
set_option maxHeartbeats 1100000
set_option autoImplicit false
namespace K87
open PySem L2
/-! ### match -/
def OBs : Option (List (Str × V)) → Option (List (Str × Value)) → Prop
  | none, none => True
  | some a, some b => a.map (·.1) = b.map (·.1) ∧ Vals (a.map (·.2)) (b.map (·.2))
  | _, _ => False
def wP (X : Cx) (p : Pattern) (v : V) (σ : St) (H : Hp) (Q : Option (List (Str × V)) → Prop) : Prop := ∀ (pins : List (Addr × Obj)) (s : Shared) (u : Value), Inv X pins σ H s → RelV v u →
  wpAny (model X.prog X.w) X.A (matchPattern p X.env u) (fun r s' => ∃ r', Inv X pins σ H s' ∧ OBs r' r ∧ Q r') X.xe s
def wPs (X : Cx) (ps : List Pattern) (vs : List V) (σ : St) (H : Hp) (Q : Option (List (Str × V)) → Prop) : Prop := ∀ (pins : List (Addr × Obj)) (s : Shared) (us : List Value), Inv X pins σ H s → Vals vs us →
  wpAny (model X.prog X.w) X.A (matchEach ps X.env us) (fun r s' => ∃ r', Inv X pins σ H s' ∧ OBs r' r ∧ Q r') X.xe s
def ORep (K : PySem.W.Frag) (G : Hp) : Option (List (Str × V)) → Option (List (Str × AV)) → Prop
  | none, none => True
  | some a, some b => a.map (·.1) = b.map (·.1) ∧ Reps K G (a.map (·.2)) (b.map (·.2))
  | _, _ => False
section
variable {X : Cx} {E : XK} {F : KF} {ρ : Env'} {μ : Mu}
def dP (X : Cx) (p : Pattern) (a : AV) (k : Option (List (Str × AV)) → Prop) : Prop := ∀ v σ G H μ, Rep X.K G v a → MOk X.K G μ H → ∀ Q, (∀ r' r, k r → ORep X.K G r' r → Q r') → wP X p v σ H Q
def dPs (X : Cx) (ps : List Pattern) (as : List AV) (k : Option (List (Str × AV)) → Prop) : Prop := ∀ vs σ G H μ, Reps X.K G vs as → MOk X.K G μ H → ∀ Q, (∀ r' r, k r → ORep X.K G r' r → Q r') → wPs X ps vs σ H Q
theorem p_cap {n : Str} {pos : Pos} {a : AV} {k : Option (List (Str × AV)) → Prop} (h : k (some [(n, a)])) : dP X (.MatchAs none (some n) pos) a k := fun v σ G H μ r m Q po pins s u I ru =>
  wpAny_matchPattern_Capture ⟨some [(n, v)], I, ⟨rfl, .cons ru .nil⟩, po _ _ h ⟨rfl, .cons r .nil⟩⟩
theorem p_any {pos : Pos} {a : AV} {k : Option (List (Str × AV)) → Prop} (h : k (some [])) : dP X (.MatchAs none none pos) a k := fun v σ G H μ r m Q po pins s u I ru =>
  wpAny_matchPattern_Capture ⟨some [], I, ⟨rfl, .nil⟩, po _ _ h ⟨rfl, .nil⟩⟩
theorem p_str {z : Str} {j : Nat} {p1 pos : Pos} {a : AV} {k : Option (List (Str × AV)) → Prop} (hu : X.A.units + 64 < cLine) (hz : PyData.canLay0 (.str z) = true) (h : ∃ c n, a = .d c ∧ Gd n c ∧ n ≤ 64 ∧ (c = .str z → k (some [])) ∧ (c ≠ .str z → k none)) : dP X (.MatchValue (.Constant (.str z) j p1) pos) a k := fun v σ G H μ r m Q po pins s u I ru => by
  obtain ⟨c, n, rfl, hg, hn, q1, q2⟩ := h
  refine wpAny_matchPattern_Value ?_
  refine thn ((pe_str (X := X) (x := z) (j := j) (pos := p1)).run pins s σ H (fun y H2 => y = .str z ∧ H2 = H) I ⟨rfl, rfl⟩) fun u2 s2 ⟨y, H2, I2, r2, ey, eh⟩ => ?_
  subst ey eh
  have op := op_eqD hu pins s2 σ H2 v (.str z) u u2 (fun w H3 => w = .bl (PyData.eqv c (.str z)) ∧ H3 = H2) I2 ru r2 ⟨c, .str z, dp_ext m.sub c v r, .str _, gd_shaped hg hn, gd_shaped (.str 0 z hz) (by decide), rfl, rfl⟩
  refine thn op fun u3 s3 ⟨w, H3, I3, r3, ew, eh⟩ => ?_
  subst ew eh
  cases r3
  refine wpAny_truthy_bool ?_
  have iff := gd_eqv hg (.str 0 z hz)
  cases e : PyData.eqv c (.str z) with
  | true => exact ⟨some [], I3, ⟨rfl, .nil⟩, po _ _ (q1 (iff.mp e)) ⟨rfl, .nil⟩⟩
  | false => exact ⟨none, I3, trivial, po _ _ (q2 fun z => by rw [iff.mpr z] at e; cases e) trivial⟩
theorem ps_nil' {as : List AV} {k : Option (List (Str × AV)) → Prop} (h : k (some [])) : dPs X [] as k := fun vs σ G H μ r m Q po pins s us I ru =>
  wpAny_matchEach_nil ⟨some [], I, ⟨rfl, .nil⟩, po _ _ h ⟨rfl, .nil⟩⟩
theorem ps_cons' {p : Pattern} {ps : List Pattern} {a : AV} {as : List AV} {k : Option (List (Str × AV)) → Prop}
    (h : dP X p a fun r => match r with | none => k none | some bs => dPs X ps as fun r' => match r' with | none => k none | some more => k (some (bs ++ more))) (hp : p.isStar = false := by rfl) : dPs X (p :: ps) (a :: as) k := fun vs σ G H μ r m Q po pins s us I ru => by
  cases r with
  | cons r rr =>
    cases ru with
    | cons ru rru =>
      refine wpAny_matchEach_cons (thn (h _ σ G H μ r m (fun r' => (r' = none ∧ Q none) ∨ ∃ bs', r' = some bs' ∧ ∃ bs : List (Str × AV), ORep X.K G (some bs') (some bs) ∧ dPs X ps as fun r' => match r' with | none => k none | some more => k (some (bs ++ more))) (fun r' r0 hk hr => ?_) pins s _ I ru) fun r1 s1 ⟨r', I1, ob, hq⟩ => ?_) hp
      · cases r0 with
        | none =>
          cases r' with
          | none => exact .inl ⟨rfl, po _ _ hk trivial⟩
          | some _ => exact hr.elim
        | some bs =>
          cases r' with
          | none => exact hr.elim
          | some bs' => exact .inr ⟨bs', rfl, bs, hr, hk⟩
      · rcases hq with ⟨rfl, hq⟩ | ⟨bs', rfl, bs, hr, hd⟩
        · cases r1 with
          | none => exact ⟨none, I1, trivial, hq⟩
          | some _ => exact ob.elim
        · cases r1 with
          | none => exact ob.elim
          | some b1 =>
            obtain ⟨hr1, hr2⟩ := hr
            obtain ⟨ob1, ob2⟩ := ob
            refine thn (hd _ σ G H μ rr m (fun r' => (r' = none ∧ Q none) ∨ ∃ more', r' = some more' ∧ Q (some (bs' ++ more'))) (fun r' r0 hk hr => ?_) pins s1 _ I1 rru) fun r2 s2 ⟨r', I2, ob', hq⟩ => ?_
            · cases r0 with
              | none =>
                cases r' with
                | none => exact .inl ⟨rfl, po _ _ hk trivial⟩
                | some _ => exact hr.elim
              | some more =>
                cases r' with
                | none => exact hr.elim
                | some more' => exact .inr ⟨more', rfl, po _ _ hk ⟨by rw [List.map_append, List.map_append, hr1, hr.1], by rw [List.map_append, List.map_append]; exact Reps.append hr2 hr.2⟩⟩
            · rcases hq with ⟨rfl, hq⟩ | ⟨more', rfl, hq⟩
              · cases r2 with
                | none => exact ⟨none, I2, trivial, hq⟩
                | some _ => exact ob'.elim
              · cases r2 with
                | none => exact ob'.elim
                | some m2 => exact ⟨some (bs' ++ more'), I2, ⟨by rw [List.map_append, List.map_append, ob1, ob'.1], by rw [List.map_append, List.map_append]; exact ob2.append ob'.2⟩, hq⟩
theorem p_seq {ps : List Pattern} {pos : Pos} {a : AV} {k : Option (List (Str × AV)) → Prop} (hc : X.calm = true) (h : ∃ ds, a = tv ds ∧ (ds.length ≠ ps.length → k none) ∧ (ds.length = ps.length → dPs X ps (ds.map .d) k))
    (hstar : ps.findIdx? (·.isStar) = none := by rfl) (hwild : (ps.all fun p => p.isWildcard || (p.isStar && p.names.isEmpty)) = false := by rfl) : dP X (.MatchSequence ps pos) a k := fun v σ G H μ r m Q po pins s u I ru => by
  obtain ⟨ds, rfl, q1, q2⟩ := h
  obtain ⟨p, vs, rfl, hs, rs⟩ := rep_tup r
  (obtain rfl : u = Value.ref p := ru); have hl := Reps.len rs
  rw [List.length_map] at hl
  obtain ⟨its, rv, ht, hz⟩ := I.tuple (Ext.sqT m.sub hs)
  have hl2 := rv.length
  have ht' : s.heap.IsTuple p its.toArray := ht
  refine wpAny_matchPattern_Sequence (wpAny_collectionFlag ht'.typeIs flag_seq_tuple ?_) hstar hwild
  rw [if_pos rfl]
  unfold pyLen
  have hfit : ((its.toArray.size : Nat) : Int) < 2 ^ 63 := by
    rw [List.size_toArray, ← hl2]
    rw [sizeLine_eq] at hz
    omega
  have key : wpAny (model X.prog X.w) X.A (runValue (.builtin "len" ⟨[.ref p], []⟩)) (fun r s' => r = .int its.toArray.size (s.toks + 1) ∧ s' = { s with toks := s.toks + 1 + 1 }) X.xe s := by
    (refine wpAny_runValue (codeAny_builtin entry_len ?_)); rw [Around.under_plainId plain_len _]
    exact wpAny_mono (PyProof.Rows.len_body_tuple (Q := fun r s' => r = .int its.toArray.size (s.toks + 1) ∧ s' = { s with toks := s.toks + 1 + 1 }) ht hfit ⟨rfl, rfl⟩)
      (fun fin s' h' => by obtain ⟨rr, rfl, hq⟩ := h'; exact hq) fun _ _ e => e
  refine wpAny_bind (wpAny_mono key (fun r s' ⟨e1, e2⟩ => ?_) fun _ _ e => e)
  subst e1 e2
  refine wpAny_pure ?_
  have I1 : Inv X pins σ H { s with toks := s.toks + 1 + 1 } := I.kept (h' := s.heap) (t' := s.toks + 1 + 1) fun _ _ e => e
  by_cases e : ds.length = ps.length
  · have e2 : its.toArray.size = ps.length := by rw [List.size_toArray, ← hl2, hl, e]
    rw [if_neg (by rw [e2]; simp)]
    rw [← e2]
    refine wpAny_unpackItems_tuple (I.ok.hd hc) (s := { s with toks := s.toks + 1 + 1 }) ht' fun h' hx => ?_
    have I2 : Inv X pins σ H { s with heap := h', toks := s.toks + 1 + 1 } := I.kept (t' := s.toks + 1 + 1) fun b o e => hx b o (Nat.ne_of_lt (Heap.lt_size e)) e
    exact q2 e vs σ G H μ rs m Q po pins _ _ I2 (by simpa using rv)
  · rw [if_pos (by
      rw [List.size_toArray, ← hl2, hl]
      simp
      omega)]
    exact ⟨none, I1, trivial, po _ _ (q1 e) trivial⟩
/-- names bound in order -/
def dBn (X : Cx) : List (Str × AV) → Env' → (Env' → Prop) → Prop
  | [], ρ, k => k ρ
  | (n, a) :: r, ρ, k => ∃ i, X.N[i]? = some n ∧ X.env.scope.names.lookup n = some .local ∧ dBn X r (ρ.set i (some a)) k
theorem bn_run (hN : X.N.Nodup) {K : Env' → Prop} : ∀ {bs : List (Str × AV)} {bs' : List (Str × V)} {b1 : List (Str × Value)} {ρ : Env'} {σ : St} {G H : Hp} {pins : List (Addr × Obj)} {s : Shared} {Q : Unit → Shared → Prop}, dBn X bs ρ K → bs'.map (·.1) = bs.map (·.1) → Reps X.K G (bs'.map (·.2)) (bs.map (·.2)) → bs'.map (·.1) = b1.map (·.1) → Vals (bs'.map (·.2)) (b1.map (·.2)) →
    SR X.K G σ ρ → Inv X pins σ H s → (∀ ρ' σ' s', K ρ' → SR X.K G σ' ρ' → Inv X pins σ' H s' → Q () s') → wpAny (model X.prog X.w) X.A (assignInOrder (b1.map fun (n, _) => bindName X.env n) (b1.map (·.2))) Q X.xe s
  | [], [], [], ρ, σ, G, H, pins, s, Q, h, _, _, _, _, sr, I, q => wpAny_assignInOrder_none (q ρ σ s h sr I)
  | [], _ :: _, _, _, _, _, _, _, _, _, _, e, _, _, _, _, _, _ => by cases e
  | _ :: _, [], _, _, _, _, _, _, _, _, _, e, _, _, _, _, _, _ => by cases e
  | [], [], _ :: _, _, _, _, _, _, _, _, _, _, _, e, _, _, _, _ => by cases e
  | _ :: _, _ :: _, [], _, _, _, _, _, _, _, _, _, _, e, _, _, _, _ => by cases e
  | (n, a) :: bs, (n', v) :: bs', (n1, u) :: b1, ρ, σ, G, H, pins, s, Q, h, e1, r1, e2, r2, sr, I, q => by
    obtain ⟨i, hi, hx, h⟩ := h
    rw [List.map_cons, List.map_cons] at e1 e2
    injection e1 with e1 e1'
    injection e2 with e2 e2'
    simp only at e1 e2
    subst e1 e2
    cases r1 with
    | cons r1 rr1 =>
      cases r2 with
      | cons r2 rr2 =>
        refine wpAny_assignInOrder_more (wpAny_bindName (store_ok I hN hi (.inl hx) r2 (fun s' I' => ?_) (.inr hx)))
        exact bn_run hN h e1' rr1 e2' rr2 (sr.set i r1) I' q
/-- the cases -/
def wM (X : Cx) (cs : List MatchCase) (first : Bool) (v : V) (D : Ends) (σ : St) (H : Hp) : Prop := ∀ (pins : List (Addr × Obj)) (s : Shared) (u : Value), Inv X pins σ H s → RelV v u →
  wpAny (model X.prog X.w) X.A (matchCases cs X.env u first) (SP X pins D) X.xe s
def dM (X : Cx) (E : XK) (F : KF) (cs : List MatchCase) (first : Bool) (a : AV) (ρ : Env') (μ : Mu) (N : DN) : Prop := ∀ v σ G H, Rep X.K G v a → SR X.K G σ ρ → MOk X.K G μ H → PostF X.K G μ H F E → ∀ D, PostD X.K G μ H N D → wM X cs first v D σ H
theorem m_case {p : Pattern} {body : List Stmt} {cs : List MatchCase} {first : Bool} {a : AV} {N : DN} (hN : X.N.Nodup) (h : dP X p a fun r => match r with | none => dM X E F cs false a ρ μ N | some bs => dBn X bs ρ fun ρ' => dSs X E F body ρ' μ N) : dM X E F (⟨p, none, body⟩ :: cs) first a ρ μ N := fun v σ G H r sr m pf D po pins s u I ru => by
  refine wpAny_matchCases_cons (thn (h v σ G H μ r m (fun r' => (r' = none ∧ dM X E F cs false a ρ μ N) ∨ ∃ bs' bs, r' = some bs' ∧ ORep X.K G (some bs') (some bs) ∧ dBn X bs ρ fun ρ' => dSs X E F body ρ' μ N) (fun r' r0 hk hr => ?_) pins s u I ru) fun r1 s1 ⟨r', I1, ob, hq⟩ => ?_)
  · cases r0 with
    | none =>
      cases r' with
      | none => exact .inl ⟨rfl, hk⟩
      | some _ => exact hr.elim
    | some bs =>
      cases r' with
      | none => exact hr.elim
      | some bs' => exact .inr ⟨bs', bs, rfl, hr, hk⟩
  · rcases hq with ⟨rfl, hq⟩ | ⟨bs', bs, rfl, hr, hd⟩
    · cases r1 with
      | none => exact hq v σ G H r sr m pf D po pins s1 u I1 ru
      | some _ => exact ob.elim
    · cases r1 with
      | none => exact ob.elim
      | some b1 =>
        refine bn_run hN hd hr.1 hr.2 ob.1 ob.2 sr I1 fun ρ' σ' s' hk sr' I' => ?_
        exact hk σ' G H sr' m pf D po pins s' I'
theorem m_nil {first : Bool} {a : AV} {N : DN} (h : N.nx ρ μ) : dM X E F [] first a ρ μ N := fun v σ G H r sr m pf D po pins s u I ru =>
  wpAny_matchCases_nil ⟨σ, H, I, po.nxAt h m sr⟩
theorem s_match {e : Expr} {cs : List MatchCase} {pos : Pos} {N : DN} (h : dE X E F e ρ μ fun a μ1 => dM X E F cs true a ρ μ1 N) : dS X E F (.Match e cs pos) ρ μ N := fun σ G H sr m pf D po pins s I => by
  refine wpAny_Match ?_
  refine thn (h σ G H sr m pf (fun v H1 => wM X cs true v D σ H1) (fun v a G1 μ1 H1 h1 s1 m1 r1 => h1 v σ G1 H1 r1 (sr.ext s1.ex) m1 (pf.step s1) D (po.step s1)) pins s I) fun u s1 ⟨v, H1, I1, r1, q⟩ => ?_
  exact q pins s1 u I1 r1
end
end K87
end

section
set_option Elab.async false
set_option linter.all false
set_option maxRecDepth 100000
set_option maxHeartbeats 1100000
set_option autoImplicit false
namespace K87
open PySem L2
section
variable {X : Cx} {E : XK} {F : KF} {ρ : Env'} {μ : Mu} {k : KV'} {kT : Bool → Mu → Prop} {kI : List AV → (Mu → Prop) → Mu → Prop} {a b e tg : Expr} {p1 p2 p3 q1 q2 q3 pos : Pos} {n : Nat}
/-- isinstance(e, (T, U)) of data -/
theorem d_isi2 {x1 x2 : Str} {U1 U2 : String} (hg : Gl X "isinstance") (hm : X.mg "isinstance" = none) (hg1 : Gl X x1) (hm1 : X.mg x1 = none) (hv1 : bootBuiltins x1 = some (.type U1)) (hg2 : Gl X x2) (hm2 : X.mg x2 = none) (hv2 : bootBuiltins x2 = some (.type U2))
    (h : dE X E F a ρ μ fun y μ1 => ∃ (T : String) (b1 b2 : Bool), tyN y = some T ∧ kitB T U1 = some b1 ∧ kitB T U2 = some b2 ∧ k (bv (b1 || b2)) μ1)
    (hn1 : x1 ≠ "__name__" := by decide) (hd1 : (x1 == ("__debug__" : Str)) = false := by decide) (hn2 : x2 ≠ "__name__" := by decide) (hd2 : (x2 == ("__debug__" : Str)) = false := by decide)
    (hs1 : starEach [a, .Tuple [.Name x1 q1, .Name x2 q2] n q3] X.env = (false, eval a X.env) :: starEach [.Tuple [.Name x1 q1, .Name x2 q2] n q3] X.env := by rfl)
    (hs2 : starEach [.Tuple [.Name x1 q1, .Name x2 q2] n q3] X.env = (false, eval (.Tuple [.Name x1 q1, .Name x2 q2] n q3) X.env) :: starEach [] X.env := by rfl)
    (hs3 : starEach [.Name x1 q1, .Name x2 q2] X.env = (false, eval (.Name x1 q1) X.env) :: starEach [.Name x2 q2] X.env := by rfl)
    (hs4 : starEach [.Name x2 q2] X.env = (false, eval (.Name x2 q2) X.env) :: starEach [] X.env := by rfl)
    (hpl : (backTo pos (starEach [.Tuple [.Name x1 q1, .Name x2 q2] n q3] X.env)).any (·.1) = false := by rfl) :
    dE X E F (.Call (.Name "isinstance" p1) [a, .Tuple [.Name x1 q1, .Name x2 q2] n q3] [] pos) ρ μ k := fun σ G H sr m pf Q po => by
  refine w_pe (pe_callB call_isiT hg hm (by decide +kernel) (pa_cons pe_w (pa_cons (pe_tup (pa_cons (pe_bltn (v := .ty U1) hg1 hm1 hv1 rfl hn1 hd1) (pa_cons (pe_bltn (v := .ty U2) hg2 hm2 hv2 rfl hn2 hd2) pa_nil hs4) hs3)) pa_nil hs2) hs1) (by decide) (by decide) hs1 hpl) ?_
  refine h σ G H sr m pf _ fun v y G1 μ1 H1 h1 s1 m1 r => ?_
  obtain ⟨T, b1, b2, ht, k1, k2, q⟩ := h1
  refine ⟨by show 2 ≤ sizeLine; rw [sizeLine_eq]; decide, fun p hp => ?_⟩
  have m2 := m1.out (o := .tup [.ty U1, .ty U2]) hp
  refine ⟨v, p, [.ty U1, .ty U2], .type T, [.type U1, .type U2], b1 || b2, rfl, upd_same, .cons (.ty _) (.cons (.ty _) .nil), tyN_ok ht m2 r, ?_, ?_⟩
  · refine kitAny_cons (kit_ty k1) (fun hb => ?_) (fun hb => by rw [hb]; rfl)
    rw [hb]
    refine kitAny_cons (kit_ty k2) (fun hb => by rw [hb]; rfl) (fun hb => by rw [hb]; rfl)
  · exact po (.bl _) (bv _) G1 μ1 _ q (s1.trans (Stp.out hp)) m2 (rb _)
/-- an int in a tuple of ints -/
theorem inV_int {i : Int} : ∀ ns : List Int, inV (.int i) (ns.map V.int) = decide (i ∈ ns)
  | [] => rfl
  | n :: ns => by
    have ih := inV_int (i := i) ns
    unfold inV at ih ⊢
    rw [List.map_cons, List.any_cons, ih]
    show ((n == i) || _) = _
    by_cases e : n = i
    · subst e; simp
    · have : (n == i) = false := by simpa using e
      rw [this, Bool.false_or]
      have e' : i ≠ n := fun z => e z.symm
      simp [e']
theorem dr_notIn {K : PySem.W.Frag} {x y : AV} (h : ∃ (i : Int) (ns : List Int), x = iv i ∧ y = tv (ns.map .int) ∧ k (bv (!decide (i ∈ ns))) μ) : dR K (rIn K true) x y μ k := fun v u G H r1 r2 m Q po => by
  obtain ⟨i, ns, rfl, rfl, q⟩ := h
  rw [rep_int r1]
  obtain ⟨p, vs, rfl, hs, rs⟩ := rep_tup r2
  rw [List.map_map] at rs
  have e := reps_ints (ns := ns) rs
  rw [e] at hs
  refine ⟨p, _, rfl, .inr (Ext.sqT m.sub hs), rfl, ?_, ?_⟩
  · rw [List.all_map]
    exact (List.all_eq_true.mpr fun _ _ => rfl)
  · rw [if_pos rfl, inV_int]
    exact po.now q m (rb _)
/-- a sign in a text -/
theorem dr_inS {K : PySem.W.Frag} {x y : AV} (h : ∃ (c : Nat) (z : Str), x = sv ⟨#[c]⟩ ∧ y = sv z ∧ k (bv (decide (c ∈ z.cps.toList))) μ) : dR K (fun x y H Q => ∃ (c : Nat) (z : Str), x = .str ⟨#[c]⟩ ∧ y = .str z ∧ Q (.bl (decide (c ∈ z.cps.toList))) H) x y μ k := fun v u G H r1 r2 m Q po => by
  (obtain ⟨c, z, rfl, rfl, q⟩ := h); exact ⟨c, z, rep_str r1, rep_str r2, po.now q m (rb _)⟩
/-- the signs of a text -/
theorem i_str (h : dE X E F e ρ μ fun y μ1 => ∃ z : Str, y = sv z ∧ kI (z.cps.toList.map fun c => sv ⟨#[c]⟩) (fun _ => True) μ1) : dI X E F tg e ρ μ kI := fun σ G H sr m pf R po => by
  refine w_pi (pi_str pe_w) ?_
  refine h σ G H sr m pf _ fun v y G1 μ1 H1 h1 s1 m1 r => ?_
  obtain ⟨z, rfl, q⟩ := h1
  refine ⟨z, rep_str r, po _ _ _ G1 μ1 H1 q s1 m1 ⟨fun i H2 G2 μ2 m2 ex _ hi => ?_, fun i H2 G2 μ2 m2 ex _ hi => ?_, fun i H2 v H' G2 μ2 a m2 ex _ ha hyl => ?_⟩⟩
  · rw [List.length_map, Array.length_toList] at hi
    exact hi
  · rw [List.length_map, Array.length_toList] at hi
    exact hi
  · obtain ⟨rfl, c, hc, rfl⟩ := hyl
    rw [List.getElem?_map, Array.getElem?_toList, hc] at ha
    cases ha
    exact ⟨G2, Stp.refl _ _ _, m2, Dp.str _⟩
/-- len of a text -/
theorem d_lenS (hg : Gl X "len") (hm : X.mg "len" = none) (h : dE X E F a ρ μ fun y μ1 => ∃ z : Str, y = sv z ∧ z.length ≤ 1000000 ∧ k (iv z.length) μ1)
    (hs1 : starEach [a] X.env = (false, eval a X.env) :: starEach [] X.env := by rfl) (hpl : (backTo pos (starEach [] X.env)).any (·.1) = false := by rfl) :
    dE X E F (.Call (.Name "len" p1) [a] [] pos) ρ μ k :=
  d_callB call_len_str hg hm (by decide +kernel) (d_cons (h.mono fun y μ1 ⟨z, h1, h2, h3⟩ => d_nil (dc_lenS ⟨z, by rw [h1], h2, h3⟩)) hs1) (he := hs1) (hpl := hpl)
theorem d_abs (hg : Gl X "abs") (hm : X.mg "abs" = none) (h : dE X E F a ρ μ fun y μ1 => ∃ i, y = iv i ∧ k (iv (if i < 0 then -i else i)) μ1)
    (hs1 : starEach [a] X.env = (false, eval a X.env) :: starEach [] X.env := by rfl) (hpl : (backTo pos (starEach [] X.env)).any (·.1) = false := by rfl) :
    dE X E F (.Call (.Name "abs" p1) [a] [] pos) ρ μ k :=
  d_callB call_abs hg hm (by decide +kernel) (d_cons (h.mono fun y μ1 ⟨z, h1, h3⟩ => d_nil (dc_abs ⟨z, by rw [h1], h3⟩)) hs1) (he := hs1) (hpl := hpl)
/-- int(a truth value) -/
theorem d_intB (hg : Gl X "int") (hm : X.mg "int" = none) (h : dE X E F a ρ μ fun y μ1 => ∃ t, y = bv t ∧ k (iv (if t then 1 else 0)) μ1)
    (hs1 : starEach [a] X.env = (false, eval a X.env) :: starEach [] X.env := by rfl) (hpl : (backTo pos (starEach [] X.env)).any (·.1) = false := by rfl) :
    dE X E F (.Call (.Name "int" p1) [a] [] pos) ρ μ k :=
  d_callTy call_int1 hg hm (by decide +kernel) (d_cons (h.mono fun y μ1 ⟨z, h1, h3⟩ => d_nil (dc_intB ⟨z, by rw [h1], h3⟩)) hs1) (he := hs1) (hpl := hpl)
end
end K87
end

section
set_option Elab.async false
set_option linter.all false
set_option maxRecDepth 100000
set_option maxHeartbeats 1100000
set_option autoImplicit false
namespace K87
open PySem L2 K87M
theorem zipD_map {α : Type} (f : α → PyData) (xs ys : List α) : zipD (xs.map f) (ys.map f) = (xs.zip ys).map fun p => .tuple [f p.1, f p.2] := by
  unfold zipD
  rw [List.zip_map, List.map_map]
  rfl
theorem adj {α : Type} {R : α → α → Prop} : ∀ {l : List α}, l.Pairwise R → ∀ p ∈ l.zip l.tail, R p.1 p.2
  | [], _, p, h => by cases h
  | [_], _, p, h => by cases h
  | a :: b :: l, h, p, hp => by
    (obtain ⟨h1, h2⟩ := List.pairwise_cons.mp h); have e : (a :: b :: l).zip (a :: b :: l).tail = (a, b) :: (b :: l).zip (b :: l).tail := rfl
    (rw [e] at hp); rcases List.mem_cons.mp hp with e | hp
    · subst e; exact h1 b (List.mem_cons_self ..)
    · exact adj h2 p hp
theorem cut_tl {α : Type} (a : List α) : cutA a (some 1) none = a.tail := by
  cases a with
  | nil => rfl
  | cons x a => exact cut_tail a x
theorem all_true {α : Type} (l : List α) : (l.map fun _ => true).all id = true := by
  rw [List.all_eq_true]
  intro b hb
  obtain ⟨_, _, e⟩ := List.mem_map.mp hb
  rw [← e]; rfl
theorem fm_const {α : Type} (l : List α) : l.filterMap (fun _ => some (PyData.bool true)) = (l.map fun _ => true).map .bool := by
  rw [fm_some, List.map_map]; rfl
section
variable {P : Program} {w : World} {K : PySem.W.Frag} {mg : Str → Option Value} {base : Heap} {f : Addr} {fd : FuncData}
def fsIsStack : FS := ret fun as r => ∃ rs : List (Int × Nat), rs.length < 100000 ∧ (∀ x ∈ rs, 1 ≤ x.2) ∧ (rs.Pairwise fun x y => x.1 > y.1) ∧ as = [.d (rnsD rs)] ∧ r = .bool true
theorem sc_is_stack : FnScope ["value", "run", "one", "other"] ["value"] (C8.fnScope (top 13)) := C8.fnScope_by (by decide +kernel)
theorem cal_is_stack (D : C8.Def K mg "is_stack" (top 13) f fd) (b : Binds K fd ["value"] []) (B : Bl mg) (c_is_run : C8.Cal P w K mg base 3 "is_run" (spF K fsIsRun) []) : C8.Cal P w K mg base 4 "is_stack" (spF K fsIsStack) [] := by
  refine calD D b sc_is_stack (fun as μ k F ⟨_, ⟨n, _, _, _, h, _⟩, _⟩ => by rw [h]; rfl) fun cdv A outer s H E hr as μ k F ⟨r, ⟨rs, hl, hp, hd, h, hr'⟩, hk⟩ => ?_
  subst h hr'
  refine s_cons ?_
  refine s_if ?_
  refine d_tW ?_
  refine d_wor ?_
  refine d_tnot ?_
  refine d_tval ?_
  refine d_isi rfl B.isinstance rfl B.tuple bt_tuple ?_
  refine d_var 0 rfl ?_ -- value
  refine ⟨_, _, rfl, kt_tt, _, rfl, fun h => absurd h (by decide), fun _ => ?_⟩
  refine d_wor1 ?_
  refine d_tnot ?_
  refine d_tval ?_
  refine d_all rfl rfl B.all ?_
  refine d_lc1 1 [("run", 1)] rfl sc_is_stack.nd (blkOk_by (N := ["value", "run", "one", "other"]) (sc := C8.fnScope (top 13)) (by decide +kernel)) ?_
  refine i_tup ?_
  refine d_var 0 rfl ?_ -- value
  refine ⟨_, rfl, lcF_lcW ⟨trivial, _, rs, fun a => .d (runD a), fun a => some (.bool true), by rw [List.map_map]; rfl, by omega, fun a ha => ?_, ?_⟩⟩
  · refine ⟨_, rfl, ?_⟩
    refine ⟨rfl, fun h => absurd h (by decide), fun _ => ?_⟩
    intro s H0 C cl fp
    refine d_call c_is_run hr (by decide) rfl ?_
    refine d_cons ?_
    refine d_var 1 rfl ?_ -- run
    refine d_nil ?_
    exact ⟨_, ⟨a, hp a ha, rfl, rfl⟩, rfl, _, rfl, rfl⟩ -- is_run
  refine ⟨rs.map fun _ => true, lst_bools _ _ (fm_const rs), _, rfl, ?_⟩
  rw [all_true]
  refine ⟨fun h => absurd h (by decide), fun _ => ?_⟩
  refine s_nil ?_
  refine s_one ?_
  refine s_ret ?_
  refine d_all rfl rfl B.all ?_
  refine d_lc2 2 3 [("one", 2), ("other", 3)] rfl sc_is_stack.nd (blkOk_by (N := ["value", "run", "one", "other"]) (sc := C8.fnScope (top 13)) (by decide +kernel)) ?_
  refine i_zipK rfl B.zip ?_
  refine d_cons ?_
  refine d_var 0 rfl ?_ -- value
  refine d_cons ?_
  refine d_slT ?_
  refine d_var 0 rfl ?_ -- value
  refine d_osome ?_
  refine d_int ?_
  refine ⟨_, rfl, ?_⟩
  refine d_onone ?_
  refine ⟨_, rfl, ?_⟩
  refine d_nil ?_
  refine ⟨_, _, rfl, lcF_lcW ⟨trivial, _, rs.zip rs.tail, fun p => tv [runD p.1, runD p.2], fun p => some (.bool true), ?_, ?_, fun a ha => ?_, ?_⟩⟩
  · rw [cut_tl, ← List.map_tail, zipD_map, List.map_map]; rfl
  · rw [List.length_zip]; omega
  · refine ⟨_, rfl, ?_⟩
    refine ⟨rfl, fun h => absurd h (by decide), fun _ => ?_⟩
    intro s H0 C cl fp
    refine d_cmp op_gt rfl ?_
    refine d_ix ?_
    refine d_var 2 rfl ?_ -- one
    refine d_int ?_
    refine ⟨_, _, iv a.1.1, .tup _, rfl, rfl, ?_⟩
    refine d_ix ?_
    refine d_var 3 rfl ?_ -- other
    refine d_int ?_
    refine ⟨_, _, iv a.2.1, .tup _, rfl, rfl, ?_⟩
    refine dr_c ⟨_, _, rfl, rfl, rfl, _, rfl, ?_⟩
    have := adj hd a ha
    show bv (decide _) = _
    rw [decide_eq_true this]
  · refine ⟨(rs.zip rs.tail).map fun _ => true, lst_bools _ _ (fm_const _), kb (all_true _) hk⟩
/-! ### check_stack -/
def fsChkStack : FS := ret fun as r => ∃ rs : List (Int × Nat), rs.length < 100000 ∧ (∀ x ∈ rs, 1 ≤ x.2) ∧ (rs.Pairwise fun x y => x.1 > y.1) ∧ as = [.d (rnsD rs)] ∧ r = .none
theorem sc_check_stack : FnScope ["value"] ["value"] (C8.fnScope (top 14)) := C8.fnScope_by (by decide +kernel)
theorem cal_check_stack (D : C8.Def K mg "check_stack" (top 14) f fd) (b : Binds K fd ["value"] []) (B : Bl mg) (c_is_stack : C8.Cal P w K mg base 4 "is_stack" (spF K fsIsStack) []) : C8.Cal P w K mg base 5 "check_stack" (spF K fsChkStack) [] := by
  refine calD D b sc_check_stack (fun as μ k F ⟨_, ⟨n, _, _, _, h, _⟩, _⟩ => by rw [h]; rfl) fun cdv A outer s H E hr as μ k F ⟨r, ⟨rs, hl, hp, hd, h, hr'⟩, hk⟩ => ?_
  subst h hr'
  refine s_one ?_
  refine s_if ?_
  refine d_tnot ?_
  refine d_tval ?_
  refine d_call c_is_stack hr (by decide) rfl ?_
  refine d_cons ?_
  refine d_var 0 rfl ?_ -- value
  refine d_nil ?_
  refine ⟨_, ⟨rs, hl, hp, hd, rfl, rfl⟩, _, rfl, fun h => absurd h (by decide), fun _ => ?_⟩ -- is_stack
  refine s_nil ?_
  exact hk
/-! ### is_step -/
def fsIsStep : FS := ret fun as r => ∃ s : K87M.Step, s.Ok ∧ as = [.d (stepD s)] ∧ r = .bool true
theorem sc_is_step : FnScope ["value", "number", "count"] ["value"] (C8.fnScope (top 22)) := C8.fnScope_by (by decide +kernel)
theorem str_push : PyData.canLay0 (.str "push") = true := by decide +kernel
theorem str_pop : PyData.canLay0 (.str "pop") = true := by decide +kernel
theorem push_ne_pop : PyData.str "pop" ≠ .str "push" := fun e => by
  injection e with e
  exact absurd e (by decide +kernel)
theorem cal_is_step (D : C8.Def K mg "is_step" (top 22) f fd) (b : Binds K fd ["value"] []) (B : Bl mg) (c_is_integer : C8.Cal P w K mg base 1 "is_integer" (spF K fsIsInt) []) (c_is_count : C8.Cal P w K mg base 2 "is_count" (spF K fsIsCount) []) : C8.Cal P w K mg base 3 "is_step" (spF K fsIsStep) [] := by
  refine calD D b sc_is_step (fun as μ k F ⟨_, ⟨n, _, h, _⟩, _⟩ => by rw [h]; rfl) fun cdv A outer s H E hr as μ k F ⟨r, ⟨st, ok, h, hr'⟩, hk⟩ => ?_
  subst h hr'
  cases st with
  | push x c =>
    refine s_cons ?_
    refine s_if ?_
    refine d_tW ?_
    refine d_wor ?_
    refine d_tnot ?_
    refine d_tval ?_
    refine d_isi rfl B.isinstance rfl B.tuple bt_tuple ?_
    refine d_var 0 rfl ?_ -- value
    refine ⟨_, _, rfl, kt_tt, _, rfl, fun h => absurd h (by decide), fun _ => ?_⟩
    refine d_wor ?_
    refine d_tcmp op_notIn_seq rfl ?_
    refine d_len rfl B.len ?_
    refine d_var 0 rfl ?_ -- value
    refine ⟨_, .tup _, ?_⟩
    refine d_tup ?_
    refine d_cons ?_
    refine d_int ?_
    refine d_cons ?_
    refine d_int ?_
    refine d_nil ?_
    refine ⟨[.int 2, .int 3], rfl, by simp, ?_⟩
    refine dr_notIn ⟨_, [2, 3], rfl, rfl, _, rfl, fun h => absurd h (show ¬ ((!decide ((3 : Int) ∈ [2, 3])) = true) by decide), fun _ => ?_⟩
    refine d_wor1 ?_
    refine d_tnot ?_
    refine d_tval ?_
    refine d_isi rfl B.isinstance rfl B.str bt_str ?_
    refine d_ix ?_
    refine d_var 0 rfl ?_ -- value
    refine d_int ?_
    refine ⟨_, _, sv "push", .tup _, rfl, rfl, ?_⟩
    refine ⟨_, _, rfl, kt_ss, _, rfl, fun h => absurd h (by decide), fun _ => ?_⟩
    refine s_nil ?_
    refine s_one ?_
    refine s_match ?_
    refine d_var 0 rfl ?_
    refine m_case sc_is_step.nd ?_
    refine p_seq rfl ⟨_, rfl, fun h => absurd rfl h, fun _ => ?_⟩
    refine ps_cons' ?_
    refine p_str hr.units str_push ⟨_, 0, rfl, .str _ _ str_push, by decide, fun _ => ?_, fun h => absurd rfl h⟩
    refine ps_cons' (p_cap ?_)
    refine ps_cons' (p_cap ?_)
    refine ps_nil' ?_
    refine ⟨1, rfl, rfl, 2, rfl, rfl, ?_⟩
    refine s_one ?_
    refine s_ret ?_
    refine d_and ?_
    refine d_call c_is_integer hr (by decide) rfl ?_
    refine d_cons ?_
    refine d_var 1 rfl ?_
    refine d_nil ?_
    refine ⟨_, ⟨_, rfl, rfl⟩, _, rfl, fun _ => ?_, fun h => absurd h (by decide)⟩
    refine d_one ?_
    refine d_call c_is_count hr (by decide) rfl ?_
    refine d_cons ?_
    refine d_var 2 rfl ?_
    refine d_nil ?_
    have h1 : 1 ≤ c := ok
    exact ⟨_, ⟨_, by omega, rfl, rfl⟩, hk⟩
  | pop c =>
    refine s_cons ?_
    refine s_if ?_
    refine d_tW ?_
    refine d_wor ?_
    refine d_tnot ?_
    refine d_tval ?_
    refine d_isi rfl B.isinstance rfl B.tuple bt_tuple ?_
    refine d_var 0 rfl ?_ -- value
    refine ⟨_, _, rfl, kt_tt, _, rfl, fun h => absurd h (by decide), fun _ => ?_⟩
    refine d_wor ?_
    refine d_tcmp op_notIn_seq rfl ?_
    refine d_len rfl B.len ?_
    refine d_var 0 rfl ?_ -- value
    refine ⟨_, .tup _, ?_⟩
    refine d_tup ?_
    refine d_cons ?_
    refine d_int ?_
    refine d_cons ?_
    refine d_int ?_
    refine d_nil ?_
    refine ⟨[.int 2, .int 3], rfl, by simp, ?_⟩
    refine dr_notIn ⟨_, [2, 3], rfl, rfl, _, rfl, fun h => absurd h (show ¬ ((!decide ((2 : Int) ∈ [2, 3])) = true) by decide), fun _ => ?_⟩
    refine d_wor1 ?_
    refine d_tnot ?_
    refine d_tval ?_
    refine d_isi rfl B.isinstance rfl B.str bt_str ?_
    refine d_ix ?_
    refine d_var 0 rfl ?_ -- value
    refine d_int ?_
    refine ⟨_, _, sv "pop", .tup _, rfl, rfl, ?_⟩
    refine ⟨_, _, rfl, kt_ss, _, rfl, fun h => absurd h (by decide), fun _ => ?_⟩
    refine s_nil ?_
    refine s_one ?_
    refine s_match ?_
    refine d_var 0 rfl ?_
    refine m_case sc_is_step.nd ?_
    refine p_seq rfl ⟨_, rfl, fun _ => ?_, fun h => absurd h (show ¬ (2 = 3) by decide)⟩
    refine m_case sc_is_step.nd ?_
    refine p_seq rfl ⟨_, rfl, fun h => absurd rfl h, fun _ => ?_⟩
    refine ps_cons' ?_
    refine p_str hr.units str_pop ⟨_, 0, rfl, .str _ _ str_pop, by decide, fun _ => ?_, fun h => absurd rfl h⟩
    refine ps_cons' (p_cap ?_)
    refine ps_nil' ?_
    refine ⟨2, rfl, rfl, ?_⟩
    refine s_one ?_
    refine s_ret ?_
    refine d_call c_is_count hr (by decide) rfl ?_
    refine d_cons ?_
    refine d_var 2 rfl ?_
    refine d_nil ?_
    have h1 : 1 ≤ c := ok
    exact ⟨_, ⟨_, by omega, rfl, rfl⟩, hk⟩
/-! ### check_sequence -/
/-- steps as data, in a list or a tuple -/
inductive SeqD : List K87M.Step → AV → Prop
  | lst (ss : List K87M.Step) : SeqD ss (lv (ss.map stepD))
  | tup (ss : List K87M.Step) : SeqD ss (tv (ss.map stepD))
def fsChkSeq : FS := ret fun as r => ∃ (ss : List K87M.Step) (a : AV), ss.length < 100000 ∧ (∀ s ∈ ss, s.Ok) ∧ SeqD ss a ∧ as = [a] ∧ r = .none
theorem sc_check_sequence : FnScope ["value", "index", "step"] ["value"] (C8.fnScope (top 23)) := C8.fnScope_by (by decide +kernel)
theorem enAll_steps (ss : List K87M.Step) : enAll ((ss.map stepD).map .d) = ss.zipIdx.map fun p => tv [.int (p.2 : Int), stepD p.1] := by
  unfold enAll
  rw [List.map_map]
  apply List.ext_getElem?
  intro i
  rw [List.getElem?_mapIdx, List.getElem?_map, List.getElem?_map, List.getElem?_zipIdx]
  cases ss[i]? with
  | none => rfl
  | some s => simp [enA]
theorem kt_tl : kitB "tuple" "list" = some false := by decide +kernel
theorem kt_ll : kitB "list" "list" = some true := by decide +kernel
theorem kt_lt : kitB "list" "tuple" = some false := by decide +kernel
theorem dI_either {X : Cx} {E : XK} {F : KF} {tg e : Expr} {ρ : Env'} {μ : Mu} {kI : List AV → (Mu → Prop) → Mu → Prop} (h1 : dI X E F tg e ρ μ kI) : dI X E F tg e ρ μ kI := h1
theorem cal_check_sequence (D : C8.Def K mg "check_sequence" (top 23) f fd) (b : Binds K fd ["value"] []) (B : Bl mg) (c_is_step : C8.Cal P w K mg base 3 "is_step" (spF K fsIsStep) []) : C8.Cal P w K mg base 4 "check_sequence" (spF K fsChkSeq) [] := by
  refine calD D b sc_check_sequence (fun as μ k F ⟨_, ⟨n, _, _, _, _, h, _⟩, _⟩ => by rw [h]; rfl) fun cdv A outer s H E hr as μ k F ⟨r, ⟨ss, a, hl, ok, sq, h, hr'⟩, hk⟩ => ?_
  subst h hr'
  have loop : ∀ (e : Expr) (ρ : Env'), ρ = startR ["value", "index", "step"] [a] → True := fun _ _ _ => trivial
  cases sq with
  | lst =>
    refine s_cons ?_
    refine s_if ?_
    refine d_tnot ?_
    refine d_tval ?_
    refine d_isi2 rfl B.isinstance rfl B.list bt_list rfl B.tuple bt_tuple ?_
    refine d_var 0 rfl ?_ -- value
    refine ⟨_, _, _, rfl, kt_ll, kt_lt, _, rfl, fun h => absurd h (by decide), fun _ => ?_⟩
    refine s_nil ?_
    refine s_one ?_
    refine s_forL PassesOwn.never rfl ?_
    refine i_enumL rfl B.enumerate ?_
    refine d_var 0 rfl ?_ -- value
    refine ⟨_, .lst _, ?_, _, ss.zipIdx, fun p => tv [.int (p.2 : Int), stepD p.1], fun d ρ' μ' => μ' = μ ∧ ∃ x y, ρ' = [some (lv (ss.map stepD)), x, y], enAll_steps ss, ⟨rfl, none, none, rfl⟩, fun d r ρ μ e h => .lst _, fun d a r ρ μ e h => ?_, fun ρ μ h => ?_⟩
    · intro x hx j z e
      obtain ⟨_, _, e'⟩ := List.mem_map.mp hx
      rw [e] at e'; cases e'
    · obtain ⟨rfl, x, y, rfl⟩ := h
      refine g_tup rfl ⟨_, rfl, rfl, ?_⟩
      refine gs_cons (g_name 1 ?_ sc_check_sequence.nd)
      refine gs_cons (g_name 2 ?_ sc_check_sequence.nd)
      refine gs_nil ?_
      refine s_one ?_
      refine s_if ?_
      refine d_tnot ?_
      refine d_tval ?_
      refine d_call c_is_step hr (by decide) rfl ?_
      refine d_cons ?_
      refine d_var 2 rfl ?_ -- step
      refine d_nil ?_
      refine ⟨_, ⟨a.1, ok a.1 ?_, rfl, rfl⟩, _, rfl, fun h => absurd h (by decide), fun _ => ?_⟩ -- is_step
      · have : a ∈ ss.zipIdx := by rw [e]; simp
        exact (List.mem_zipIdx_iff_getElem?.mp this |> List.mem_of_getElem?)
      refine s_nil ?_
      exact ⟨rfl, _, _, rfl⟩
    · obtain ⟨rfl, x, y, rfl⟩ := h
      exact hk
  | tup =>
    refine s_cons ?_
    refine s_if ?_
    refine d_tnot ?_
    refine d_tval ?_
    refine d_isi2 rfl B.isinstance rfl B.list bt_list rfl B.tuple bt_tuple ?_
    refine d_var 0 rfl ?_ -- value
    refine ⟨_, _, _, rfl, kt_tl, kt_tt, _, rfl, fun h => absurd h (by decide), fun _ => ?_⟩
    refine s_nil ?_
    refine s_one ?_
    refine s_forL PassesOwn.never rfl ?_
    refine i_enumT rfl B.enumerate ?_
    refine d_var 0 rfl ?_ -- value
    refine ⟨_, rfl, _, ss.zipIdx, fun p => tv [.int (p.2 : Int), stepD p.1], fun d ρ' μ' => μ' = μ ∧ ∃ x y, ρ' = [some (tv (ss.map stepD)), x, y], enAll_steps ss, ⟨rfl, none, none, rfl⟩, fun d r ρ μ e h => trivial, fun d a r ρ μ e h => ?_, fun ρ μ h => ?_⟩
    · obtain ⟨rfl, x, y, rfl⟩ := h
      refine g_tup rfl ⟨_, rfl, rfl, ?_⟩
      refine gs_cons (g_name 1 ?_ sc_check_sequence.nd)
      refine gs_cons (g_name 2 ?_ sc_check_sequence.nd)
      refine gs_nil ?_
      refine s_one ?_
      refine s_if ?_
      refine d_tnot ?_
      refine d_tval ?_
      refine d_call c_is_step hr (by decide) rfl ?_
      refine d_cons ?_
      refine d_var 2 rfl ?_ -- step
      refine d_nil ?_
      refine ⟨_, ⟨a.1, ok a.1 ?_, rfl, rfl⟩, _, rfl, fun h => absurd h (by decide), fun _ => ?_⟩ -- is_step
      · have : a ∈ ss.zipIdx := by rw [e]; simp
        exact (List.mem_zipIdx_iff_getElem?.mp this |> List.mem_of_getElem?)
      refine s_nil ?_
      exact ⟨rfl, _, _, rfl⟩
    · obtain ⟨rfl, x, y, rfl⟩ := h
      exact hk
/-! ### after_step -/
def optD : Option (List Int) → PyData
  | some g => stk g
  | none => .none
def fsAfter : FS := ret fun as r => ∃ (h : List Int) (s : K87M.Step), Dec h ∧ h.length + s.cnt < 100000 ∧ s.Ok ∧ as = [.d (stk h), .d (stepD s)] ∧ r = optD (aft h s)
theorem sc_after_step : FnScope ["stack", "step"] ["stack", "step"] (C8.fnScope (top 24)) := C8.fnScope_by (by decide +kernel)
theorem cal_after_step (D : C8.Def K mg "after_step" (top 24) f fd) (b : Binds K fd ["stack", "step"] []) (B : Bl mg) (hpush : ∃ t, mg "PUSH" = some (.str "push" t)) (c_pushed : C8.Cal P w K mg base 2 "pushed" (spF K fsPushed) []) (c_size_of : C8.Cal P w K mg base 1 "size_of" (spF K fsSizeOf) []) (c_popped : C8.Cal P w K mg base 1 "popped" (spF K fsPopped) []) : C8.Cal P w K mg base 3 "after_step" (spF K fsAfter) [] := by
  obtain ⟨tk, hpush⟩ := hpush
  refine calD D b sc_after_step (fun as μ k F ⟨_, ⟨n, _, _, _, _, h, _⟩, _⟩ => by rw [h]; rfl) fun cdv A outer s H E hr as μ k F ⟨r, ⟨g, st, dg, hl, ok, h, hr'⟩, hk⟩ => ?_
  subst h hr'
  cases st with
  | push x c =>
    have hc : 1 ≤ c := ok
    have hl' : g.length + c < 100000 := hl
    refine s_cons ?_
    refine s_if ?_
    refine d_tcmp (op_eqD hr.units) rfl ?_
    refine d_ix ?_
    refine d_var 1 rfl ?_ -- step
    refine d_int ?_
    refine ⟨_, _, sv "push", .tup _, rfl, rfl, ?_⟩
    refine d_glob (v := .str "push") (a := sv "push") rfl hpush ⟨_, rfl⟩ (fun _ => Dp.str _) ?_
    refine dr_eqG ⟨_, _, 0, 0, rfl, rfl, .str _ _ str_push, .str _ _ str_push, by decide, by decide, fun h => ⟨_, rfl, fun _ => ?_, fun h => absurd h (by decide)⟩, fun h => absurd rfl h⟩
    refine s_one ?_
    refine s_ret ?_
    refine d_call c_pushed hr (by decide) rfl ?_
    refine d_cons ?_
    refine d_var 0 rfl ?_ -- stack
    refine d_cons ?_
    refine d_ix ?_
    refine d_var 1 rfl ?_ -- step
    refine d_int ?_
    refine ⟨_, _, iv x, .tup _, rfl, rfl, ?_⟩
    refine d_cons ?_
    refine d_ix ?_
    refine d_var 1 rfl ?_ -- step
    refine d_int ?_
    refine ⟨_, _, iv c, .tup _, rfl, rfl, ?_⟩
    refine d_nil ?_
    exact ⟨_, ⟨g, x, c, dg, hl', hc, rfl, rfl⟩, hk⟩ -- pushed
  | pop c =>
    have hc : 1 ≤ c := ok
    refine s_cons ?_
    refine s_if ?_
    refine d_tcmp (op_eqD hr.units) rfl ?_
    refine d_ix ?_
    refine d_var 1 rfl ?_ -- step
    refine d_int ?_
    refine ⟨_, _, sv "pop", .tup _, rfl, rfl, ?_⟩
    refine d_glob (v := .str "push") (a := sv "push") rfl hpush ⟨_, rfl⟩ (fun _ => Dp.str _) ?_
    refine dr_eqG ⟨_, _, 0, 0, rfl, rfl, .str _ _ str_pop, .str _ _ str_push, by decide, by decide, fun h => absurd h push_ne_pop, fun h => ⟨_, rfl, fun h => absurd h (by decide), fun _ => ?_⟩⟩
    refine s_nil ?_
    refine s_cons ?_
    refine s_if ?_
    refine d_tcmp op_lt rfl ?_
    refine d_call c_size_of hr (by decide) rfl ?_
    refine d_cons ?_
    refine d_var 0 rfl ?_ -- stack
    refine d_nil ?_
    refine ⟨_, ⟨g, by omega, rfl, rfl⟩, ?_⟩ -- size_of
    refine d_ix ?_
    refine d_var 1 rfl ?_ -- step
    refine d_int ?_
    refine ⟨_, _, iv c, .tup _, rfl, rfl, ?_⟩
    refine dr_c ⟨_, _, rfl, rfl, _, rfl, ?_⟩
    refine ⟨fun h => ?_, fun h => ?_⟩
    · have hlt : (g.length : Int) < c := of_decide_eq_true h
      refine s_one ?_
      refine s_ret ?_
      refine d_non ?_
      have e : aft g (.pop c) = none := if_neg (by omega)
      rw [e] at hk
      exact hk
    · have hlt : ¬ (g.length : Int) < c := of_decide_eq_false h
      refine s_nil ?_
      refine s_one ?_
      refine s_ret ?_
      refine d_call c_popped hr (by decide) rfl ?_
      refine d_cons ?_
      refine d_var 0 rfl ?_ -- stack
      refine d_cons ?_
      refine d_ix ?_
      refine d_var 1 rfl ?_ -- step
      refine d_int ?_
      refine ⟨_, _, iv c, .tup _, rfl, rfl, ?_⟩
      refine d_nil ?_
      have e : aft g (.pop c) = some (g.take (g.length - c)) := if_pos (by omega)
      rw [e] at hk
      exact ⟨_, ⟨g, c, by omega, by omega, rfl, rfl⟩, hk⟩ -- popped
end
end K87
end

section
set_option Elab.async false
set_option linter.all false
set_option maxRecDepth 100000
set_option maxHeartbeats 1100000
set_option autoImplicit false
namespace K87M
theorem runs_head {h : List Int} {y : Int} {c : Nat} {t : List (Int × Nat)} (e : runs h = (y, c) :: t) : h.head? = some y := by
  have f := flat_runs h
  have hp := run_pos (h := h) (y, c) (by rw [e]; exact List.mem_cons_self ..)
  rw [e, flat_cons] at f
  obtain ⟨n, rfl⟩ : ∃ n, c = n + 1 := ⟨c - 1, by simp at hp; omega⟩
  rw [← f]
  simp [List.replicate_succ]
def lastK (o : Option Nat) (d : List Pr) : Option Nat := match (scan o d).getLast? with
  | some q => some q.2
  | none => o
theorem scan_snoc (a : Pr) : ∀ (d : List Pr) (o : Option Nat), scan o (d ++ [a]) = scan o d ++ (match lastK o d with | none => [a] | some b => if b < a.2 then [a] else [])
  | [], none => rfl
  | [], some b => by
    show scan (some b) [a] = [] ++ (if b < a.2 then [a] else [])
    unfold scan
    rw [List.nil_append]
    split
    · rfl
    · rfl
  | q :: d, o => by
    have key : scan o (q :: d) = q :: scan (some q.2) d → lastK o (q :: d) = lastK (some q.2) d := fun e => by
      unfold lastK
      rw [e]
      cases h : scan (some q.2) d with
      | nil => rfl
      | cons x t => rw [List.getLast?_cons_cons]; cases hh : (x :: t).getLast? with
        | none => simp at hh
        | some z => rfl
    cases o with
    | none =>
      have e : ∀ l, scan none (q :: l) = q :: scan (some q.2) l := fun l => rfl
      rw [List.cons_append, e, scan_snoc a d, key (e d), e, List.cons_append]
    | some b =>
      by_cases hb : b < q.2
      · have e : ∀ l, scan (some b) (q :: l) = q :: scan (some q.2) l := fun l => by
          show (if b < q.2 then _ else _) = _
          rw [if_pos hb]
        rw [List.cons_append, e, scan_snoc a d, key (e d), e, List.cons_append]
      · have e : ∀ l, scan (some b) (q :: l) = scan (some b) l := fun l => by
          show (if b < q.2 then _ else _) = _
          rw [if_neg hb]
        have e2 : lastK (some b) (q :: d) = lastK (some b) d := by unfold lastK; rw [e]
        rw [List.cons_append, e, scan_snoc a d, e2, e]
def pass (l : List Pr) (h : List Int) : List Pr := l.filter fun p => match h.head? with
  | none => true
  | some y => decide (y < p.1)
end K87M
namespace K87
open PySem L2 K87M
/-- data, or an own list of data -/
inductive DatA (μ : Mu) : AV → PyData → Prop
  | d (c : PyData) : DatA μ (.d c) c
  | own (p : Addr) (ds : List PyData) (h : μ p = some (.lst (ds.map .d))) : DatA μ (rv p) (.list ds)
theorem DatA.at {K : PySem.W.Frag} {G H : Hp} {μ : Mu} {x : AV} {c : PyData} {v : V} (h : DatA μ x c) (m : MOk K G μ H) (r : Rep K G v x) : Dp K H v c := by
  cases h with
  | d c => exact dp_ext m.sub c v r
  | own p ds h =>
    obtain ⟨_, vs, e, rs⟩ := m.obj p _ h
    cases r
    exact .lst (SqL.of e) (reps_dpAll (Reps.ext m.sub rs))
theorem dr_eqO {K : PySem.W.Frag} {x y : AV} {μ : Mu} {k : KV'} (h : ∃ c d n m, DatA μ x c ∧ DatA μ y d ∧ Gd n c ∧ Gd m d ∧ n ≤ 64 ∧ m ≤ 64 ∧ (c = d → k (bv true) μ) ∧ (c ≠ d → k (bv false) μ)) : dR K (rEqD K) x y μ k := fun v u G H r1 r2 mk Q po => by
  obtain ⟨c, d, n, m, hx, hy, h1, h2, hn, hm, q1, q2⟩ := h
  refine ⟨c, d, hx.at mk r1, hy.at mk r2, gd_shaped h1 hn, gd_shaped h2 hm, ?_⟩
  have := gd_eqv h1 h2
  cases e : PyData.eqv c d with
  | true => exact po.now (q1 (this.mp e)) mk (rb _)
  | false => exact po.now (q2 fun z => by rw [this.mpr z] at e; cases e) mk (rb _)
theorem dr_neO {K : PySem.W.Frag} {x y : AV} {μ : Mu} {k : KV'} (h : ∃ c d n m, DatA μ x c ∧ DatA μ y d ∧ Gd n c ∧ Gd m d ∧ n ≤ 64 ∧ m ≤ 64 ∧ (c = d → k (bv false) μ) ∧ (c ≠ d → k (bv true) μ)) : dR K (rNeD K) x y μ k := fun v u G H r1 r2 mk Q po => by
  obtain ⟨c, d, n, m, hx, hy, h1, h2, hn, hm, q1, q2⟩ := h
  refine ⟨c, d, hx.at mk r1, hy.at mk r2, gd_shaped h1 hn, gd_shaped h2 hm, ?_⟩
  have := gd_eqv h1 h2
  cases e : PyData.eqv c d with
  | true => exact po.now (q1 (this.mp e)) mk (rb _)
  | false => exact po.now (q2 fun z => by rw [this.mpr z] at e; cases e) mk (rb _)
theorem gd_nilL (n : Nat) : Gd (n + 1) (.list []) := .lst _ _ fun _ h => nomatch h
theorem gd_nilT (n : Nat) : Gd (n + 1) (.tuple []) := .tup _ _ fun _ h => nomatch h
theorem gd_runsL (n : Nat) (rs : List (Int × Nat)) : Gd (n + 2) (.list (rs.map runD)) := .lst _ _ fun x hx => by
  obtain ⟨r, _, e⟩ := List.mem_map.mp hx
  subst e; exact gd_run n r
section
variable {P : Program} {w : World} {K : PySem.W.Frag} {mg : Str → Option Value} {base : Heap} {f : Addr} {fd : FuncData}
/-! ### is_pair, are_pairs -/
def fsIsPair : FS := ret fun as r => ∃ x : Int × Nat, as = [.d (runD x)] ∧ r = .bool true
theorem sc_is_pair : FnScope ["value"] ["value"] (C8.fnScope (top 30)) := C8.fnScope_by (by decide +kernel)
theorem cal_is_pair (D : C8.Def K mg "is_pair" (top 30) f fd) (b : Binds K fd ["value"] []) (B : Bl mg) (c_is_integer : C8.Cal P w K mg base 1 "is_integer" (spF K fsIsInt) []) : C8.Cal P w K mg base 2 "is_pair" (spF K fsIsPair) [] := by
  refine calD D b sc_is_pair (fun as μ k F ⟨_, ⟨n, h, _⟩, _⟩ => by rw [h]; rfl) fun cdv A outer s H E hr as μ k F ⟨r, ⟨x, h, hr'⟩, hk⟩ => ?_
  subst h hr'
  refine s_cons ?_
  refine s_if ?_
  refine d_tW ?_
  refine d_wor ?_
  refine d_tnot ?_
  refine d_tval ?_
  refine d_isi rfl B.isinstance rfl B.tuple bt_tuple ?_
  refine d_var 0 rfl ?_ -- value
  refine ⟨_, _, rfl, kt_tt, _, rfl, fun h => absurd h (by decide), fun _ => ?_⟩
  refine d_wor1 ?_
  refine d_tcmp (op_neD hr.units) rfl ?_
  refine d_len rfl B.len ?_
  refine d_var 0 rfl ?_ -- value
  refine ⟨_, .tup _, ?_⟩
  refine d_int ?_
  refine dr_neG ⟨_, _, 0, 0, rfl, rfl, .int _ _, .int _ _, by decide, by decide, fun h => ⟨_, rfl, fun h => absurd h (by decide), fun _ => ?_⟩, fun h => absurd rfl h⟩
  refine s_nil ?_
  refine s_one ?_
  refine s_ret ?_
  refine d_and ?_
  refine d_call c_is_integer hr (by decide) rfl ?_
  refine d_cons ?_
  refine d_ix ?_
  refine d_var 0 rfl ?_ -- value
  refine d_int ?_
  refine ⟨_, _, iv x.1, .tup _, rfl, rfl, ?_⟩
  refine d_nil ?_
  refine ⟨_, ⟨_, rfl, rfl⟩, _, rfl, fun _ => ?_, fun h => absurd h (by decide)⟩
  refine d_and ?_
  refine d_call c_is_integer hr (by decide) rfl ?_
  refine d_cons ?_
  refine d_ix ?_
  refine d_var 0 rfl ?_ -- value
  refine d_int ?_
  refine ⟨_, _, iv x.2, .tup _, rfl, rfl, ?_⟩
  refine d_nil ?_
  refine ⟨_, ⟨_, rfl, rfl⟩, _, rfl, fun _ => ?_, fun h => absurd h (by decide)⟩
  refine d_one ?_
  refine d_cmp op_ge rfl ?_
  refine d_ix ?_
  refine d_var 0 rfl ?_ -- value
  refine d_int ?_
  refine ⟨_, _, iv x.2, .tup _, rfl, rfl, ?_⟩
  refine d_int ?_
  refine dr_c ⟨_, _, rfl, rfl, kb (decide_eq_true ?_) hk⟩
  exact Int.natCast_nonneg _
def fsArePairs : FS := ret fun as r => ∃ l : List Pr, l.length < 100000 ∧ (l.Pairwise fun p q => p.1 < q.1 ∧ q.2 < p.2) ∧ as = [.d (rnsD l)] ∧ r = .bool true
theorem sc_are_pairs : FnScope ["value", "rows", "pair", "one", "other"] ["value"] (C8.fnScope (top 31)) := C8.fnScope_by (by decide +kernel)
theorem cal_are_pairs (D : C8.Def K mg "are_pairs" (top 31) f fd) (b : Binds K fd ["value"] []) (B : Bl mg) (c_is_pair : C8.Cal P w K mg base 2 "is_pair" (spF K fsIsPair) []) : C8.Cal P w K mg base 3 "are_pairs" (spF K fsArePairs) [] := by
  refine calD D b sc_are_pairs (fun as μ k F ⟨_, ⟨n, _, _, h, _⟩, _⟩ => by rw [h]; rfl) fun cdv A outer s H E hr as μ k F ⟨r, ⟨l, hl, hp, h, hr'⟩, hk⟩ => ?_
  subst h hr'
  refine s_cons ?_
  refine s_if ?_
  refine d_tW ?_
  refine d_wor ?_
  refine d_tnot ?_
  refine d_tval ?_
  refine d_isi rfl B.isinstance rfl B.tuple bt_tuple ?_
  refine d_var 0 rfl ?_ -- value
  refine ⟨_, _, rfl, kt_tt, _, rfl, fun h => absurd h (by decide), fun _ => ?_⟩
  refine d_wor1 ?_
  refine d_tnot ?_
  refine d_tval ?_
  refine d_all rfl rfl B.all ?_
  refine d_lc1 2 [("pair", 2)] rfl sc_are_pairs.nd (blkOk_by (N := ["value", "rows", "pair", "one", "other"]) (sc := C8.fnScope (top 31)) (by decide +kernel)) ?_
  refine i_tup ?_
  refine d_var 0 rfl ?_ -- value
  refine ⟨_, rfl, lcF_lcW ⟨trivial, _, l, fun a => .d (runD a), fun a => some (.bool true), by rw [List.map_map]; rfl, by omega, fun a ha => ?_, ?_⟩⟩
  · refine ⟨_, rfl, ?_⟩
    refine ⟨rfl, fun h => absurd h (by decide), fun _ => ?_⟩
    intro s H0 C cl fp
    refine d_call c_is_pair hr (by decide) rfl ?_
    refine d_cons ?_
    refine d_var 2 rfl ?_ -- pair
    refine d_nil ?_
    exact ⟨_, ⟨a, rfl, rfl⟩, rfl, _, rfl, rfl⟩ -- is_pair
  refine ⟨l.map fun _ => true, lst_bools _ _ (fm_const l), _, rfl, ?_⟩
  rw [all_true]
  refine ⟨fun h => absurd h (by decide), fun _ => ?_⟩
  refine s_nil ?_
  refine s_cons ?_
  refine s_set 1 ?_ sc_are_pairs.nd -- rows
  refine d_listZip hr.hd rfl B.list rfl B.zip ?_
  refine d_cons ?_
  refine d_var 0 rfl ?_ -- value
  refine d_cons ?_
  refine d_slT ?_
  refine d_var 0 rfl ?_ -- value
  refine d_osome ?_
  refine d_int ?_
  refine ⟨_, rfl, ?_⟩
  refine d_onone ?_
  refine ⟨_, rfl, ?_⟩
  refine d_nil ?_
  refine ⟨_, _, rfl, by rw [List.length_map]; omega, ?_⟩
  refine s_one ?_
  refine s_ret ?_
  refine d_all rfl rfl B.all ?_
  refine d_lc2 3 4 [("one", 3), ("other", 4)] rfl sc_are_pairs.nd (blkOk_by (N := ["value", "rows", "pair", "one", "other"]) (sc := C8.fnScope (top 31)) (by decide +kernel)) ?_
  refine i_list ?_
  refine d_var 1 rfl ?_ -- rows
  refine ⟨_, .lst _, lcF_lcW ⟨.lst _, _, l.zip l.tail, fun p => tv [runD p.1, runD p.2], fun p => some (.bool true), ?_, ?_, fun a ha => ?_, ?_⟩⟩
  · rw [cut_tl, ← List.map_tail, zipD_map, List.map_map]; rfl
  · rw [List.length_zip]; omega
  · refine ⟨_, rfl, ?_⟩
    refine ⟨rfl, fun h => absurd h (by decide), fun _ => ?_⟩
    intro s H0 C cl fp
    have ad := adj hp a ha
    refine d_and ?_
    refine d_cmp op_lt rfl ?_
    refine d_ix ?_
    refine d_var 3 rfl ?_ -- one
    refine d_int ?_
    refine ⟨_, _, iv a.1.1, .tup _, rfl, rfl, ?_⟩
    refine d_ix ?_
    refine d_var 4 rfl ?_ -- other
    refine d_int ?_
    refine ⟨_, _, iv a.2.1, .tup _, rfl, rfl, ?_⟩
    refine dr_c ⟨_, _, rfl, rfl, _, rfl, fun _ => ?_, fun h => ?_⟩
    rotate_left
    · have h' : decide (a.1.1 < a.2.1) = false := h
      rw [decide_eq_true ad.1] at h'; cases h'
    refine d_one ?_
    refine d_cmp op_gt rfl ?_
    refine d_ix ?_
    refine d_var 3 rfl ?_ -- one
    refine d_int ?_
    refine ⟨_, _, iv a.1.2, .tup _, rfl, rfl, ?_⟩
    refine d_ix ?_
    refine d_var 4 rfl ?_ -- other
    refine d_int ?_
    refine ⟨_, _, iv a.2.2, .tup _, rfl, rfl, ?_⟩
    refine dr_c ⟨_, _, rfl, rfl, rfl, _, rfl, ?_⟩
    show bv (decide ((a.2.2 : Int) < (a.1.2 : Int))) = _
    rw [decide_eq_true (by have := ad.2; omega)]
  · refine ⟨(l.zip l.tail).map fun _ => true, lst_bools _ _ (fm_const _), kb (all_true _) hk⟩
/-! ### undominated, shifted, passing, taken -/
def fsUndom : FS := ret fun as r => ∃ l : List Pr, l.length < 100000 ∧ as = [.d (rnsD l)] ∧ r = rnsD (U l)
theorem sc_undominated : FnScope ["pairs", "found", "threshold", "after"] ["pairs"] (C8.fnScope (top 34)) := C8.fnScope_by (by decide +kernel)
theorem rowsA_nil {rs : List (Int × Nat)} (h : (PyData.list (rs.map runD)) = .list []) : rs = [] := by
  injection h with h
  exact List.map_eq_nil_iff.mp h
theorem scan_le : ∀ (l : List Pr) (o : Option Nat), (scan o l).length ≤ l.length
  | [], o => by cases o <;> exact Nat.zero_le _
  | q :: l, none => by
    show (q :: scan _ l).length ≤ _
    have := scan_le l (some q.2)
    rw [List.length_cons, List.length_cons]; omega
  | q :: l, some b => by
    show (if b < q.2 then q :: scan (some q.2) l else scan (some b) l).length ≤ _
    have h1 := scan_le l (some q.2)
    have h2 := scan_le l (some b)
    split
    · rw [List.length_cons, List.length_cons]; omega
    · rw [List.length_cons]; omega
theorem cal_undominated (D : C8.Def K mg "undominated" (top 34) f fd) (b : Binds K fd ["pairs"] []) (B : Bl mg) : C8.Cal P w K mg base 1 "undominated" (spF K fsUndom) [] := by
  refine calD D b sc_undominated (fun as μ k F ⟨_, ⟨n, _, h, _⟩, _⟩ => by rw [h]; rfl) fun cdv A outer s H E hr as μ k F ⟨r, ⟨l, hl, h, hr'⟩, hk⟩ => ?_
  subst h hr'
  refine s_cons ?_
  refine s_set 1 ?_ sc_undominated.nd -- found
  refine d_lst ?_
  refine d_nil ?_
  refine ⟨by simp, .inr fun p hp => ?_⟩
  refine s_cons ?_
  refine s_forL PassesOwn.never rfl ?_
  refine i_list ?_
  refine d_revL ?_
  refine d_sortedP rfl B.sorted ?_
  refine d_var 0 rfl ?_ -- pairs
  refine ⟨_, l, .tup _, by rw [List.map_map]; rfl, ?_⟩
  refine ⟨_, .lst _, .inl ⟨((srt l).reverse).map runD, by rw [List.map_reverse, List.map_reverse], ?_⟩⟩
  refine ⟨_, .lst _, _, (srt l).reverse, fun r => .d (runD r), fun d ρ' μ' => μ' = mset μ p (.lst (rowsA (scan none d))) ∧ ∃ x y, ρ' = [some (.d (rnsD l)), some (rv p), x, y], by rw [List.map_map]; rfl, ⟨rfl, none, none, rfl⟩, fun d r ρ μ e h => .lst _, fun d a r ρ μ' e h => ?_, fun ρ μ' h => ?_⟩
  · obtain ⟨rfl, x, y, rfl⟩ := h
    have hd : d.length < 1000000 := by
      have := congrArg List.length e
      rw [List.length_reverse, (srt_perm l).length_eq, List.length_append, List.length_cons] at this
      omega
    refine g_tup rfl ⟨_, rfl, rfl, ?_⟩
    refine gs_cons (g_name 2 ?_ sc_undominated.nd)
    refine gs_cons (g_name 3 ?_ sc_undominated.nd)
    refine gs_nil ?_
    refine s_one ?_
    refine s_if (dT.mono (kT := fun t μ' => μ' = mset μ p (.lst (rowsA (scan none d))) ∧ scan none (d ++ [a]) = scan none d ++ (if t = true then [a] else [])) ?_ fun t μ' h => ?_)
    · refine d_tW ?_
      refine d_wor ?_
      refine d_tcmp (op_eqD hr.units) rfl ?_
      refine d_var 1 rfl ?_ -- found
      refine d_lst ?_
      refine d_nil ?_
      refine ⟨by simp, .inl ⟨[], rfl, ?_⟩⟩
      refine dr_eqO ⟨.list ((scan none d).map runD), _, 2, 1, .own p _ (by rw [mset_same, rowsA_d]), .d _, gd_runsL 0 _, gd_nilL 0, by decide, by decide, fun h => ⟨_, rfl, ?_⟩, fun h => ⟨_, rfl, ?_⟩⟩
      · refine ⟨fun _ => ⟨rfl, ?_⟩, fun h => absurd h (by decide)⟩
        have e0 : scan none d = [] := rowsA_nil h
        rw [scan_snoc]
        unfold lastK
        rw [e0]; rfl
      refine ⟨fun h => absurd h (by decide), fun _ => ?_⟩
      have ne : scan none d ≠ [] := fun z => h (by rw [z]; rfl)
      have eL : scan none d = (scan none d).dropLast ++ [(scan none d).getLast ne] := (List.dropLast_concat_getLast ne).symm
      refine d_wor1 ?_
      refine d_tcmp op_gt rfl ?_
      refine d_var 3 rfl ?_ -- after
      refine d_ix ?_
      refine d_ix ?_
      refine d_var 1 rfl ?_ -- found
      refine d_neg ?_
      refine d_int ?_
      refine ⟨_, rfl, ?_⟩
      refine ⟨_, _, .d (runD ((scan none d).getLast ne)), .own p _ mset_same, rfl, ?_, ?_⟩
      · have this := congrArg (List.map fun r => AV.d (runD r)) eL
        rw [List.map_append] at this
        unfold rowsA
        rw [this]
        exact atI_last _ _
      refine d_int ?_
      refine ⟨_, _, iv ((scan none d).getLast ne).2, .tup _, rfl, rfl, ?_⟩
      refine dr_c ⟨_, _, rfl, rfl, _, rfl, ?_⟩
      refine ⟨rfl, ?_⟩
      rw [scan_snoc]
      have : lastK none d = some ((scan none d).getLast ne).2 := by
        unfold lastK
        rw [List.getLast?_eq_some_getLast ne]
      rw [this]
      by_cases c : ((scan none d).getLast ne).2 < a.2
      · simp [c]
      · simp [c]
    obtain ⟨rfl, hs⟩ := h
    refine ⟨fun ht => ?_, fun ht => ?_⟩
    · rw [if_pos ht] at hs
      refine s_one ?_
      refine s_expr ?_
      refine d_append ?_
      refine d_var 1 rfl ?_ -- found
      refine ⟨p, _, rfl, mset_same, ?_⟩
      refine d_tup ?_
      refine d_cons ?_
      refine d_var 2 rfl ?_ -- threshold
      refine d_cons ?_
      refine d_var 3 rfl ?_ -- after
      refine d_nil ?_
      refine ⟨[.int a.1, .int a.2], rfl, by simp, ?_⟩
      refine ⟨_, mset_same, ?_, ?_⟩
      · have := scan_le d none
        unfold rowsA
        rw [List.length_map]
        omega
      · refine ⟨?_, _, _, rfl⟩
        rw [mset_mset, hs]
        unfold rowsA
        rw [List.map_append]
        rfl
    · rw [if_neg (by rw [ht]; decide), List.append_nil] at hs
      refine s_nil ?_
      refine ⟨by rw [hs], _, _, rfl⟩
  · obtain ⟨rfl, x, y, rfl⟩ := h
    refine s_one ?_
    refine s_ret (d_drop p ?_)
    refine d_tuple rfl B.tuple ?_
    refine d_revL ?_
    refine d_var 1 rfl ?_ -- found
    refine ⟨_, .own p _ mset_same, .inl ⟨(U l).map runD, ?_, ?_⟩⟩
    · unfold U rowsA
      rw [List.map_reverse, List.map_reverse, List.map_map]; rfl
    refine ⟨_, .lst _, ?_⟩
    rw [mdel_mset hp]
    exact hk
def fsShifted : FS := ret fun as r => ∃ (l : List Pr) (n : Nat), l.length < 100000 ∧ as = [.d (rnsD l), iv n] ∧ r = rnsD (l.map (sh n))
theorem sc_shifted : FnScope ["pairs", "by", "threshold", "after"] ["pairs", "by"] (C8.fnScope (top 35)) := C8.fnScope_by (by decide +kernel)
theorem cal_shifted (D : C8.Def K mg "shifted" (top 35) f fd) (b : Binds K fd ["pairs", "by"] []) (B : Bl mg) : C8.Cal P w K mg base 1 "shifted" (spF K fsShifted) [] := by
  refine calD D b sc_shifted (fun as μ k F ⟨_, ⟨n, _, _, h, _⟩, _⟩ => by rw [h]; rfl) fun cdv A outer s H E hr as μ k F ⟨r, ⟨l, n, hl, h, hr'⟩, hk⟩ => ?_
  subst h hr'
  refine s_one ?_
  refine s_ret ?_
  refine d_tuple rfl B.tuple ?_
  refine d_lc2 2 3 [("threshold", 2), ("after", 3)] rfl sc_shifted.nd (blkOk_by (N := ["pairs", "by", "threshold", "after"]) (sc := C8.fnScope (top 35)) (by decide +kernel)) ?_
  refine i_tup ?_
  refine d_var 0 rfl ?_ -- pairs
  refine ⟨_, rfl, lcF_lcW ⟨trivial, _, l, fun a => .d (runD a), fun a => some (runD (sh n a)), by rw [List.map_map]; rfl, by omega, fun a ha => ?_, ?_⟩⟩
  · refine ⟨_, rfl, ?_⟩
    refine ⟨rfl, fun h => absurd h (by decide), fun _ => ?_⟩
    intro s H0 C cl fp
    refine d_tup ?_
    refine d_cons ?_
    refine d_var 2 rfl ?_ -- threshold
    refine d_cons ?_
    refine d_add ?_
    refine d_var 3 rfl ?_ -- after
    refine d_var 1 rfl ?_ -- by
    refine ⟨_, _, rfl, rfl, ?_⟩
    refine d_nil ?_
    refine ⟨[.int a.1, .int _], rfl, by simp, ?_⟩
    exact ⟨rfl, _, rfl, rfl⟩
  · rw [fm_some]
    refine ⟨_, .lst _, ?_⟩
    refine ktt ?_ hk
    rw [List.map_map]; rfl
def fsPassing : FS := ret fun as r => ∃ (l : List Pr) (h : List Int), l.length < 100000 ∧ as = [.d (rnsD l), .d (stk h)] ∧ r = rnsD (pass l h)
theorem sc_passing : FnScope ["pairs", "new", "pair"] ["pairs", "new"] (C8.fnScope (top 36)) := C8.fnScope_by (by decide +kernel)
theorem fm_ifD {α : Type} (g : α → PyData) (p : α → Bool) (l : List α) : l.filterMap (fun a => if p a = true then some (g a) else none) = (l.filter p).map g := by
  induction l with
  | nil => rfl
  | cons a l ih =>
    rw [List.filterMap_cons, List.filter_cons]
    by_cases h : p a = true
    · rw [if_pos h, if_pos h, List.map_cons, ih]
    · rw [if_neg h, if_neg h, ih]
theorem cal_passing (D : C8.Def K mg "passing" (top 36) f fd) (b : Binds K fd ["pairs", "new"] []) (B : Bl mg) : C8.Cal P w K mg base 1 "passing" (spF K fsPassing) [] := by
  refine calD D b sc_passing (fun as μ k F ⟨_, ⟨n, _, _, h, _⟩, _⟩ => by rw [h]; rfl) fun cdv A outer s H E hr as μ k F ⟨r, ⟨l, g, hl, h, hr'⟩, hk⟩ => ?_
  subst h hr'
  refine s_one ?_
  refine s_ret ?_
  refine d_tuple rfl B.tuple ?_
  refine d_lc1 2 [("pair", 2)] rfl sc_passing.nd (blkOk_by (N := ["pairs", "new", "pair"]) (sc := C8.fnScope (top 36)) (by decide +kernel)) ?_
  refine i_tup ?_
  refine d_var 0 rfl ?_ -- pairs
  refine ⟨_, rfl, lcF_lcW ⟨trivial, _, l, fun a => .d (runD a), fun a => if (match g.head? with | none => true | some y => decide (y < a.1)) = true then some (runD a) else none, by rw [List.map_map]; rfl, by omega, fun a ha => ?_, ?_⟩⟩
  · refine ⟨_, rfl, ?_⟩
    intro s H0 C cl fp
    refine d_tW ?_
    refine d_wor ?_
    refine d_tcmp (op_eqD hr.units) rfl ?_
    refine d_var 1 rfl ?_ -- new
    refine d_tup ?_
    refine d_nil ?_
    refine ⟨[], rfl, by simp, ?_⟩
    refine dr_eqG ⟨_, _, 2, 1, rfl, rfl, gd_rns 0 _, gd_nilT 0, by decide, by decide, fun h => ⟨_, rfl, ?_⟩, fun h => ⟨_, rfl, ?_⟩⟩
    · refine ⟨fun _ => ⟨rfl, fun h => absurd h (by decide), fun _ => ?_⟩, fun h => absurd h (by decide)⟩
      have e0 : runs g = [] := Classical.byContradiction fun z => rns_ne z h
      have e1 := runs_eq_nil e0
      intro s H0 C cl fp
      refine d_var 2 rfl ?_ -- pair
      exact ⟨rfl, _, by rw [e1]; rfl, rfl⟩
    refine ⟨fun h => absurd h (by decide), fun _ => ?_⟩
    have hb : runs g ≠ [] := fun z => h (by show rnsD _ = _; rw [z]; rfl)
    obtain ⟨⟨y, c⟩, tb, eb⟩ := List.exists_cons_of_ne_nil hb
    have hd := runs_head eb
    refine d_wor1 ?_
    refine d_tcmp op_gt rfl ?_
    refine d_ix ?_
    refine d_var 2 rfl ?_ -- pair
    refine d_int ?_
    refine ⟨_, _, iv a.1, .tup _, rfl, rfl, ?_⟩
    refine d_ix ?_
    refine d_ix ?_
    refine d_var 1 rfl ?_ -- new
    refine d_int ?_
    refine ⟨_, _, .d (runD (y, c)), .tup _, rfl, ?_, ?_⟩
    · rw [eb]; exact atI_0 _ _
    refine d_int ?_
    refine ⟨_, _, iv y, .tup _, rfl, rfl, ?_⟩
    refine dr_c ⟨_, _, rfl, rfl, _, rfl, ?_⟩
    rw [hd]
    refine ⟨rfl, fun h => if_neg (by have h' : decide (y < a.1) = false := h; simp only; rw [h']; decide), fun h => ?_⟩
    intro s H0 C cl fp
    refine d_var 2 rfl ?_ -- pair
    exact ⟨rfl, _, if_pos h, rfl⟩
  · rw [fm_ifD]
    refine ⟨_, .lst _, ?_⟩
    exact hk
def fsTaken : FS := ret fun as r => ∃ (C : List Pr) (d : Nat) (rs : List (Int × Nat)) (h : List Int), C.length < 100000 ∧ h.length < 100000 ∧ as = [.d (effD C d rs), .d (stk h)] ∧ r = .int (tk h d C)
theorem sc_taken : FnScope ["effect", "new", "pairs", "drops", "rest", "threshold", "after"] ["effect", "new"] (C8.fnScope (top 37)) := C8.fnScope_by (by decide +kernel)
theorem cal_taken (D : C8.Def K mg "taken" (top 37) f fd) (b : Binds K fd ["effect", "new"] []) (B : Bl mg) (c_count_below : C8.Cal P w K mg base 1 "count_below" (spF K fsCntB) []) : C8.Cal P w K mg base 2 "taken" (spF K fsTaken) [] := by
  refine calD D b sc_taken (fun as μ k F ⟨_, ⟨_, _, _, n, _, _, h, _⟩, _⟩ => by rw [h]; rfl) fun cdv A outer s H E hr as μ k F ⟨r, ⟨C, d, rs, g, hC, hg, h, hr'⟩, hk⟩ => ?_
  subst h hr'
  refine s_cons ?_
  refine s_asg ?_
  refine d_var 0 rfl ?_ -- effect
  refine g_tup rfl ⟨_, rfl, rfl, ?_⟩
  refine gs_cons (g_name 2 ?_ sc_taken.nd)
  refine gs_cons (g_name 3 ?_ sc_taken.nd)
  refine gs_cons (g_name 4 ?_ sc_taken.nd)
  refine gs_nil ?_
  refine s_one ?_
  refine s_ret ?_
  refine d_max1 rfl rfl B.max ?_
  refine d_catL ?_
  refine d_lst ?_
  refine d_cons ?_
  refine d_var 3 rfl ?_ -- drops
  refine d_nil ?_
  refine ⟨by simp, .inl ⟨[.int d], rfl, ?_⟩⟩
  refine d_lc2 5 6 [("threshold", 5), ("after", 6)] rfl sc_taken.nd (blkOk_by (N := ["effect", "new", "pairs", "drops", "rest", "threshold", "after"]) (sc := C8.fnScope (top 37)) (by decide +kernel)) ?_
  refine i_tup ?_
  refine d_var 2 rfl ?_ -- pairs
  refine ⟨_, rfl, lcF_lcW ⟨trivial, _, C, fun a => .d (runD a), fun a => some (.int ((cntB g a.1 + a.2 : Nat) : Int)), by rw [List.map_map]; rfl, by omega, fun a ha => ?_, ?_⟩⟩
  · refine ⟨_, rfl, ?_⟩
    refine ⟨rfl, fun h => absurd h (by decide), fun _ => ?_⟩
    intro s H0 C cl fp
    refine d_add ?_
    refine d_call c_count_below hr (by decide) rfl ?_
    refine d_cons ?_
    refine d_var 1 rfl ?_ -- new
    refine d_cons ?_
    refine d_var 5 rfl ?_ -- threshold
    refine d_nil ?_
    refine ⟨_, ⟨g, a.1, hg, rfl, rfl⟩, ?_⟩ -- count_below
    refine d_var 6 rfl ?_ -- after
    refine ⟨_, _, rfl, rfl, ?_⟩
    exact ⟨rfl, _, rfl, rfl⟩
  rw [fm_some]
  refine ⟨_, _, .lst _, .lst _, by simp; omega, .inl ⟨.int d :: (C.map fun a => .int ((cntB g a.1 + a.2 : Nat) : Int)), by simp, ?_⟩⟩
  refine ⟨(d : Int) :: C.map (fun a => ((cntB g a.1 + a.2 : Nat) : Int)), lst_ints _ _ (by rw [List.map_cons, List.map_map]; rfl), by simp, fun m hm hx => ki ?_ hk⟩
  have hm' : m = d ∨ ∃ p ∈ C, m = ((cntB g p.1 + p.2 : Nat) : Int) := by
    rcases (List.mem_cons.mp hm) with e | hm
    · exact .inl e
    · obtain ⟨p, hp, e⟩ := List.mem_map.mp hm
      exact .inr ⟨p, hp, e.symm⟩
  have h0 : 0 ≤ m := by
    rcases hm' with e | ⟨p, _, e⟩ <;> omega
  have e : m = ((m.toNat : Nat) : Int) := by omega
  rw [e]
  congr 1
  refine (tk_uniq ?_ (fun p hp => ?_) ?_).symm
  · have := hx d (List.mem_cons_self ..); omega
  · have := hx _ (List.mem_cons_of_mem _ (List.mem_map.mpr ⟨p, hp, rfl⟩)); omega
  · rcases hm' with e | ⟨p, hp, e⟩
    · left; omega
    · right; exact ⟨p, hp, by omega⟩
end
end K87
end

section
set_option autoImplicit false
namespace K87M
theorem U_len (l : List Pr) : (U l).length ≤ l.length := by
  unfold U
  rw [List.length_reverse]
  have := K87.scan_le (srt l).reverse none
  rw [List.length_reverse, (srt_perm l).length_eq] at this
  exact this
/-- an effect followed by an effect, as the code reckons it -/
def join (P : List Pr) (d : Nat) (n : List Int) (C2 : List Pr) (d2 : Nat) (g2 : List Int) : List Pr × Nat × List Int :=
  (U (P.map (sh (tk n d2 C2 - n.length)) ++ pass C2 n), d + (tk n d2 C2 - n.length), n.take (n.length - min n.length (tk n d2 C2)) ++ g2)
def stepC : Step → List Pr
  | .push x _ => [(x, 0)]
  | .pop _ => []
def stepN : Step → Nat
  | .push _ _ => 0
  | .pop c => c
def stepG : Step → List Int
  | .push x c => List.replicate c x
  | .pop _ => []
theorem tk_nil (n : List Int) (d : Nat) : tk n d [] = d := rfl
theorem tk_one (n : List Int) (x : Int) : tk n 0 [(x, 0)] = cntB n x := by
  show max 0 (cntB n x + 0) = _
  omega
theorem pass_nil (l : List Pr) : pass l [] = l := by unfold pass; simp
theorem pass_hit {x y : Int} {t : List Int} (h : y < x) : pass [(x, 0)] (y :: t) = [(x, 0)] := by unfold pass; simp [h]
theorem pass_miss {x y : Int} {t : List Int} (h : ¬ y < x) : pass [(x, 0)] (y :: t) = [] := by unfold pass; simp [h]
theorem join_step {e : Eff} {s : Step} (dn : Dec e.new) : join (U e.cuts) e.drops e.new (stepC s) (stepN s) (stepG s) = (U (eff e s).cuts, (eff e s).drops, (eff e s).new) := by
  cases s with
  | push x c =>
    have cb := cntB_le e.new x
    have e0 : cntB e.new x - e.new.length = 0 := by omega
    have e1 : min e.new.length (cntB e.new x) = cntB e.new x := by omega
    show (U ((U e.cuts).map (sh (tk e.new 0 [(x, 0)] - e.new.length)) ++ pass [(x, 0)] e.new), e.drops + (tk e.new 0 [(x, 0)] - e.new.length), e.new.take (e.new.length - min e.new.length (tk e.new 0 [(x, 0)])) ++ List.replicate c x) = _
    rw [tk_one, e0, e1, sh_zero, ← up_take dn, Nat.add_zero]
    show (_, _, _) = (U (if e.new = [] ∨ ∀ y, e.new.head? = some y → y < x then e.cuts ++ [(x, 0)] else e.cuts), e.drops, up e.new x ++ List.replicate c x)
    have key : U (U e.cuts ++ pass [(x, 0)] e.new) = U (if e.new = [] ∨ ∀ y, e.new.head? = some y → y < x then e.cuts ++ [(x, 0)] else e.cuts) := by
      cases h : e.new with
      | nil =>
        rw [if_pos (.inl rfl), pass_nil]
        exact U_app _ _
      | cons y t =>
        by_cases hy : y < x
        · rw [if_pos (.inr fun z hz => by cases hz; exact hy), pass_hit hy]
          exact U_app _ _
        · rw [if_neg (by
            rintro (h | h)
            · cases h
            · exact hy (h y rfl)), pass_miss hy]
          have := U_app e.cuts []
          rw [List.append_nil, List.append_nil] at this
          rw [List.append_nil]
          exact this
    rw [key]
  | pop c =>
    show (U ((U e.cuts).map (sh (c - e.new.length)) ++ pass [] e.new), e.drops + (c - e.new.length), e.new.take (e.new.length - min e.new.length c) ++ []) = (U (e.cuts.map (sh (c - e.new.length))), e.drops + (c - e.new.length), e.new.take (e.new.length - c))
    have e1 : e.new.length - min e.new.length c = e.new.length - c := by omega
    rw [e1, List.append_nil]
    show (U (_ ++ []), _, _) = _
    rw [List.append_nil, U_shift]
def total (ss : List Step) : Nat := (ss.map Step.cnt).sum
theorem total_cons (s : Step) (ss : List Step) : total (s :: ss) = s.cnt + total ss := by unfold total; rw [List.map_cons, List.sum_cons]
theorem total_app (a b : List Step) : total (a ++ b) = total a + total b := by unfold total; rw [List.map_append, List.sum_append]
theorem effs_snoc (d : List Step) (s : Step) : effs (d ++ [s]) = eff (effs d) s := by unfold effs; rw [List.foldl_append]; rfl
theorem eff_bound (e : Eff) (s : Step) : (eff e s).cuts.length ≤ e.cuts.length + 1 ∧ (eff e s).new.length ≤ e.new.length + s.cnt := by
  cases s with
  | push x c =>
    refine ⟨?_, ?_⟩
    · show (if _ then _ else _ : List Pr).length ≤ _
      split
      · rw [List.length_append, List.length_singleton]; exact Nat.le_refl _
      · omega
    · show (up e.new x ++ List.replicate c x).length ≤ e.new.length + c
      have : (up e.new x).length ≤ e.new.length := List.length_filter_le _ _
      (rw [List.length_append, List.length_replicate]); omega
  | pop c =>
    refine ⟨?_, ?_⟩
    · show (e.cuts.map _).length ≤ _
      rw [List.length_map]; omega
    · show (e.new.take _).length ≤ _
      rw [List.length_take]; omega
theorem effs_bound : ∀ (ss : List Step) (e : Eff), (ss.foldl eff e).cuts.length ≤ e.cuts.length + ss.length ∧ (ss.foldl eff e).new.length ≤ e.new.length + total ss
  | [], e => ⟨Nat.le_refl _, Nat.le_refl _⟩
  | s :: ss, e => by
    obtain ⟨h1, h2⟩ := eff_bound e s
    obtain ⟨h3, h4⟩ := effs_bound ss (eff e s)
    rw [total_cons, List.length_cons]
    refine ⟨?_, ?_⟩
    · show (ss.foldl eff (eff e s)).cuts.length ≤ _; omega
    · show (ss.foldl eff (eff e s)).new.length ≤ _; omega
theorem effs_len (ss : List Step) : (effs ss).cuts.length ≤ ss.length ∧ (effs ss).new.length ≤ total ss := by
  have := effs_bound ss eff0
  have e1 : eff0.cuts.length = 0 := rfl
  have e2 : eff0.new.length = 0 := rfl
  unfold effs
  omega
theorem total_le {ss d r : List Step} {a : Step} (e : ss = d ++ a :: r) : total d + a.cnt ≤ total ss ∧ d.length + 1 ≤ ss.length := by
  subst e
  rw [total_app, total_cons, List.length_append, List.length_cons]
  omega
end K87M
end

section
set_option Elab.async false
set_option linter.all false
set_option maxRecDepth 100000
set_option maxHeartbeats 1100000
set_option autoImplicit false
namespace K87
open PySem L2 K87M
section
variable {P : Program} {w : World} {K : PySem.W.Frag} {mg : Str → Option Value} {base : Heap} {f : Addr} {fd : FuncData}
/-! ### joined -/
def fsJoined : FS := ret fun as r => ∃ (p : List Pr) (d : Nat) (n : List Int) (c2 : List Pr) (d2 : Nat) (g2 : List Int), p.length + c2.length < 100000 ∧ n.length + g2.length < 100000 ∧ as = [.d (effD p d (runs n)), .d (effD c2 d2 (runs g2))] ∧
  r = effD (join p d n c2 d2 g2).1 (join p d n c2 d2 g2).2.1 (runs (join p d n c2 d2 g2).2.2)
theorem sc_joined : FnScope ["first", "second", "pairs", "drops", "new", "many", "over", "by", "through", "rest"] ["first", "second"] (C8.fnScope (top 38)) := C8.fnScope_by (by decide +kernel)
theorem pass_len (l : List Pr) (h : List Int) : (pass l h).length ≤ l.length := List.length_filter_le _ _
theorem cal_joined (D : C8.Def K mg "joined" (top 38) f fd) (b : Binds K fd ["first", "second"] []) (B : Bl mg) (c_size_of : C8.Cal P w K mg base 1 "size_of" (spF K fsSizeOf) []) (c_taken : C8.Cal P w K mg base 2 "taken" (spF K fsTaken) []) (c_passing : C8.Cal P w K mg base 1 "passing" (spF K fsPassing) [])
    (c_popped : C8.Cal P w K mg base 1 "popped" (spF K fsPopped) []) (c_undominated : C8.Cal P w K mg base 1 "undominated" (spF K fsUndom) []) (c_shifted : C8.Cal P w K mg base 1 "shifted" (spF K fsShifted) []) (c_joined_runs : C8.Cal P w K mg base 1 "joined_runs" (spF K fsJoinedRuns) []) : C8.Cal P w K mg base 3 "joined" (spF K fsJoined) [] := by
  refine calD D b sc_joined (fun as μ k F ⟨_, ⟨_, _, _, _, _, n, _, _, h, _⟩, _⟩ => by rw [h]; rfl) fun cdv A outer s H E hr as μ k F ⟨r, ⟨p, d, n, c2, d2, g2, hl1, hl2, h, hr'⟩, hk⟩ => ?_
  subst h hr'
  unfold join at hk
  generalize ho : tk n d2 c2 = over at hk
  refine s_cons ?_
  refine s_asg ?_
  refine d_var 0 rfl ?_ -- first
  refine g_tup rfl ⟨_, rfl, rfl, ?_⟩
  refine gs_cons (g_name 2 ?_ sc_joined.nd)
  refine gs_cons (g_name 3 ?_ sc_joined.nd)
  refine gs_cons (g_name 4 ?_ sc_joined.nd)
  refine gs_nil ?_
  refine s_cons ?_
  refine s_set 5 ?_ sc_joined.nd -- many
  refine d_call c_size_of hr (by decide) rfl ?_
  refine d_cons ?_
  refine d_var 4 rfl ?_ -- new
  refine d_nil ?_
  refine ⟨_, ⟨n, by omega, rfl, rfl⟩, ?_⟩ -- size_of
  refine s_cons ?_
  refine s_set 6 ?_ sc_joined.nd -- over
  refine d_call c_taken hr (by decide) rfl ?_
  refine d_cons ?_
  refine d_var 1 rfl ?_ -- second
  refine d_cons ?_
  refine d_var 4 rfl ?_ -- new
  refine d_nil ?_
  refine ⟨.int over, ⟨c2, d2, runs g2, n, by omega, by omega, rfl, by rw [ho]⟩, ?_⟩ -- taken
  refine s_cons ?_
  refine s_set 7 ?_ sc_joined.nd -- by
  refine d_max2 rfl rfl B.max ?_
  refine d_int ?_
  refine d_sub ?_
  refine d_var 6 rfl ?_ -- over
  refine d_var 5 rfl ?_ -- many
  refine ⟨_, _, rfl, rfl, ?_⟩
  refine ⟨_, _, rfl, rfl, ?_⟩
  have eby : (if (over : Int) - (n.length : Int) > 0 then (over : Int) - (n.length : Int) else 0) = ((over - n.length : Nat) : Int) := by
    split <;> omega
  rw [eby]
  refine s_cons ?_
  refine s_set 8 ?_ sc_joined.nd -- through
  refine d_call c_passing hr (by decide) rfl ?_
  refine d_cons ?_
  refine d_ix ?_
  refine d_var 1 rfl ?_ -- second
  refine d_int ?_
  refine ⟨_, _, .d (rnsD c2), .tup _, rfl, rfl, ?_⟩
  refine d_cons ?_
  refine d_var 4 rfl ?_ -- new
  refine d_nil ?_
  refine ⟨_, ⟨c2, n, by omega, rfl, rfl⟩, ?_⟩ -- passing
  refine s_cons ?_
  refine s_set 9 ?_ sc_joined.nd -- rest
  refine d_call c_popped hr (by decide) rfl ?_
  refine d_cons ?_
  refine d_var 4 rfl ?_ -- new
  refine d_cons ?_
  refine d_min2 rfl rfl B.min ?_
  refine d_var 5 rfl ?_ -- many
  refine d_var 6 rfl ?_ -- over
  refine ⟨_, _, rfl, rfl, ?_⟩
  have emn : (if (over : Int) < (n.length : Int) then (over : Int) else (n.length : Int)) = ((min n.length over : Nat) : Int) := by
    split <;> omega
  rw [emn]
  refine d_nil ?_
  refine ⟨_, ⟨n, min n.length over, by omega, by omega, rfl, rfl⟩, ?_⟩ -- popped
  refine s_one ?_
  refine s_ret ?_
  refine d_tup ?_
  refine d_cons ?_
  refine d_call c_undominated hr (by decide) rfl ?_
  refine d_cons ?_
  refine d_catT ?_
  refine d_call c_shifted hr (by decide) rfl ?_
  refine d_cons ?_
  refine d_var 2 rfl ?_ -- pairs
  refine d_cons ?_
  refine d_var 7 rfl ?_ -- by
  refine d_nil ?_
  refine ⟨_, ⟨p, over - n.length, by omega, rfl, rfl⟩, ?_⟩ -- shifted
  refine d_var 8 rfl ?_ -- through
  have pl := pass_len c2 n
  refine ⟨_, _, rfl, rfl, by simp; omega, ?_⟩
  refine d_nil ?_
  refine ⟨_, ⟨p.map (sh (over - n.length)) ++ pass c2 n, by rw [List.length_append, List.length_map]; omega, by rw [← List.map_append]; rfl, rfl⟩, ?_⟩ -- undominated
  refine d_cons ?_
  refine d_add ?_
  refine d_var 3 rfl ?_ -- drops
  refine d_var 7 rfl ?_ -- by
  refine ⟨_, _, rfl, rfl, ?_⟩
  refine d_cons ?_
  refine d_call c_joined_runs hr (by decide) rfl ?_
  refine d_cons ?_
  refine d_var 9 rfl ?_ -- rest
  refine d_cons ?_
  refine d_ix ?_
  refine d_var 1 rfl ?_ -- second
  refine d_int ?_
  refine ⟨_, _, .d (stk g2), .tup _, rfl, rfl, ?_⟩
  refine d_nil ?_
  refine ⟨_, ⟨n.take (n.length - min n.length over), g2, by rw [List.length_take]; omega, rfl, rfl⟩, ?_⟩ -- joined_runs
  refine d_nil ?_
  refine ⟨[rnsD _, .int _, rnsD _], rfl, by simp, ?_⟩
  exact hk
/-! ### effect_of_step -/
def fsEffStep : FS := ret fun as r => ∃ s : K87M.Step, s.Ok ∧ as = [.d (stepD s)] ∧ r = effD (stepC s) (stepN s) (runs (stepG s))
theorem sc_effect_of_step : FnScope ["step"] ["step"] (C8.fnScope (top 39)) := C8.fnScope_by (by decide +kernel)
theorem cal_effect_of_step (D : C8.Def K mg "effect_of_step" (top 39) f fd) (b : Binds K fd ["step"] []) (B : Bl mg) (hpush : ∃ t, mg "PUSH" = some (.str "push" t)) : C8.Cal P w K mg base 1 "effect_of_step" (spF K fsEffStep) [] := by
  obtain ⟨tk', hpush⟩ := hpush
  refine calD D b sc_effect_of_step (fun as μ k F ⟨_, ⟨n, _, h, _⟩, _⟩ => by rw [h]; rfl) fun cdv A outer s H E hr as μ k F ⟨r, ⟨st, ok, h, hr'⟩, hk⟩ => ?_
  subst h hr'
  cases st with
  | push x c =>
    have hc : 1 ≤ c := ok
    refine s_cons ?_
    refine s_if ?_
    refine d_tcmp (op_eqD hr.units) rfl ?_
    refine d_ix ?_
    refine d_var 0 rfl ?_ -- step
    refine d_int ?_
    refine ⟨_, _, sv "push", .tup _, rfl, rfl, ?_⟩
    refine d_glob (v := .str "push") (a := sv "push") rfl hpush ⟨_, rfl⟩ (fun _ => Dp.str _) ?_
    refine dr_eqG ⟨_, _, 0, 0, rfl, rfl, .str _ _ str_push, .str _ _ str_push, by decide, by decide, fun h => ⟨_, rfl, fun _ => ?_, fun h => absurd h (by decide)⟩, fun h => absurd rfl h⟩
    refine s_one ?_
    refine s_ret ?_
    refine d_tup ?_
    refine d_cons ?_
    refine d_tup ?_
    refine d_cons ?_
    refine d_tup ?_
    refine d_cons ?_
    refine d_ix ?_
    refine d_var 0 rfl ?_ -- step
    refine d_int ?_
    refine ⟨_, _, iv x, .tup _, rfl, rfl, ?_⟩
    refine d_cons ?_
    refine d_int ?_
    refine d_nil ?_
    refine ⟨[.int x, .int 0], rfl, by simp, ?_⟩
    refine d_nil ?_
    refine ⟨[runD (x, 0)], rfl, by simp, ?_⟩
    refine d_cons ?_
    refine d_int ?_
    refine d_cons ?_
    refine d_tup ?_
    refine d_cons ?_
    refine d_tup ?_
    refine d_cons ?_
    refine d_ix ?_
    refine d_var 0 rfl ?_ -- step
    refine d_int ?_
    refine ⟨_, _, iv x, .tup _, rfl, rfl, ?_⟩
    refine d_cons ?_
    refine d_ix ?_
    refine d_var 0 rfl ?_ -- step
    refine d_int ?_
    refine ⟨_, _, iv c, .tup _, rfl, rfl, ?_⟩
    refine d_nil ?_
    refine ⟨[.int x, .int c], rfl, by simp, ?_⟩
    refine d_nil ?_
    refine ⟨[runD (x, c)], rfl, by simp, ?_⟩
    refine d_nil ?_
    refine ⟨[rnsD [(x, 0)], .int 0, rnsD [(x, c)]], rfl, by simp, ?_⟩
    have e : effD (stepC (.push x c)) (stepN (.push x c)) (runs (stepG (.push x c))) = .tuple [rnsD [(x, 0)], .int 0, rnsD [(x, c)]] := by
      show effD [(x, 0)] 0 (runs (List.replicate c x)) = _
      rw [runs_one x c hc]
      rfl
    rw [e] at hk
    exact hk
  | pop c =>
    refine s_cons ?_
    refine s_if ?_
    refine d_tcmp (op_eqD hr.units) rfl ?_
    refine d_ix ?_
    refine d_var 0 rfl ?_ -- step
    refine d_int ?_
    refine ⟨_, _, sv "pop", .tup _, rfl, rfl, ?_⟩
    refine d_glob (v := .str "push") (a := sv "push") rfl hpush ⟨_, rfl⟩ (fun _ => Dp.str _) ?_
    refine dr_eqG ⟨_, _, 0, 0, rfl, rfl, .str _ _ str_pop, .str _ _ str_push, by decide, by decide, fun h => absurd h push_ne_pop, fun h => ⟨_, rfl, fun h => absurd h (by decide), fun _ => ?_⟩⟩
    refine s_nil ?_
    refine s_one ?_
    refine s_ret ?_
    refine d_tup ?_
    refine d_cons ?_
    refine d_tup ?_
    refine d_nil ?_
    refine ⟨[], rfl, by simp, ?_⟩
    refine d_cons ?_
    refine d_ix ?_
    refine d_var 0 rfl ?_ -- step
    refine d_int ?_
    refine ⟨_, _, iv c, .tup _, rfl, rfl, ?_⟩
    refine d_cons ?_
    refine d_tup ?_
    refine d_nil ?_
    refine ⟨[], rfl, by simp, ?_⟩
    refine d_nil ?_
    refine ⟨[.tuple [], .int c, .tuple []], rfl, by simp, ?_⟩
    exact hk
/-! ### effect_of_valid, effect_of -/
def fsEffOf : FS := ret fun as r => ∃ (ss : List K87M.Step) (a : AV), ss.length < 50000 ∧ total ss < 50000 ∧ (∀ s ∈ ss, s.Ok) ∧ SeqD ss a ∧ as = [a] ∧ r = encE (effs ss)
theorem sc_effect_of_valid : FnScope ["sequence", "effect", "step"] ["sequence"] (C8.fnScope (top 40)) := C8.fnScope_by (by decide +kernel)
/-- a list or tuple of steps is walked -/
theorem i_seqD {X : Cx} {E : XK} {F : KF} {ρ : Env'} {μ : Mu} {kI : List AV → (Mu → Prop) → Mu → Prop} {e tg : Expr} {ss : List K87M.Step} {a : AV} (sq : SeqD ss a) (h : ∀ kE : KV', (kE a μ) → dE X E F e ρ μ kE) (q : ∀ Pm, (∀ μ', Pm μ' ↔ True) → kI (ss.map fun s => .d (stepD s)) Pm μ) : dI X E F tg e ρ μ kI := by
  have e : ss.map (fun s => AV.d (stepD s)) = (ss.map stepD).map .d := by rw [List.map_map]; rfl
  cases sq with
  | lst =>
    refine i_list (h _ ⟨_, .lst _, ?_⟩)
    have := q (fun μ' => LstA μ' (lv (ss.map stepD)) ((ss.map stepD).map .d)) fun μ' => ⟨fun _ => trivial, fun _ => .lst _⟩
    rw [e] at this
    exact this
  | tup =>
    refine i_tup (h _ ⟨_, rfl, ?_⟩)
    have := q (fun _ => True) fun μ' => Iff.rfl
    rw [e] at this
    exact this
theorem cal_effect_of_valid (D : C8.Def K mg "effect_of_valid" (top 40) f fd) (b : Binds K fd ["sequence"] []) (B : Bl mg) (hid : ∃ aI, mg "IDENTITY" = some (.ref aI) ∧ ∀ G, Dp K G (.ref aI) (effD [] 0 [])) (c_joined : C8.Cal P w K mg base 3 "joined" (spF K fsJoined) []) (c_effect_of_step : C8.Cal P w K mg base 1 "effect_of_step" (spF K fsEffStep) []) : C8.Cal P w K mg base 4 "effect_of_valid" (spF K fsEffOf) [] := by
  obtain ⟨aI, hm, hI⟩ := hid
  refine calD D b sc_effect_of_valid (fun as μ k F ⟨_, ⟨n, _, _, _, _, _, h, _⟩, _⟩ => by rw [h]; rfl) fun cdv A outer s H E hr as μ k F ⟨r, ⟨ss, a, hl, ht, ok, sq, h, hr'⟩, hk⟩ => ?_
  subst h hr'
  refine s_cons ?_
  refine s_set 1 ?_ sc_effect_of_valid.nd -- effect
  refine d_glob (v := .ref aI) (a := .d (effD [] 0 [])) rfl hm rfl hI ?_
  refine s_cons ?_
  refine s_forL PassesOwn.never rfl ?_
  refine i_seqD sq (fun kE hkE => d_var 0 rfl hkE) fun Pm hPm => ?_
  refine ⟨_, ss, fun s => .d (stepD s), fun d ρ' μ' => μ' = μ ∧ ∃ x, ρ' = [some a, some (.d (encE (effs d))), x], rfl, ⟨rfl, none, ?_⟩, fun d r ρ μ e h => (hPm _).mpr trivial, fun d st r ρ μ' e h => ?_, fun ρ μ' h => ?_⟩
  · show _ = [some a, some (.d (effD (U []) 0 (runs []))), none]
    rw [U_nil]; rfl
  · obtain ⟨rfl, x, rfl⟩ := h
    have tl := total_le e
    have eb := effs_len d
    have ul := U_len (effs d).cuts
    have okd : ∀ s ∈ d, s.Ok := fun s hs => ok s (by rw [e]; exact List.mem_append_left _ hs)
    have oks : st.Ok := ok st (by rw [e]; simp)
    refine g_name 2 ?_ sc_effect_of_valid.nd
    refine s_one ?_
    refine s_set 1 ?_ sc_effect_of_valid.nd -- effect
    refine d_call c_joined hr (by decide) rfl ?_
    refine d_cons ?_
    refine d_var 1 rfl ?_ -- effect
    refine d_cons ?_
    refine d_call c_effect_of_step hr (by decide) rfl ?_
    refine d_cons ?_
    refine d_var 2 rfl ?_ -- step
    refine d_nil ?_
    refine ⟨_, ⟨st, oks, rfl, rfl⟩, ?_⟩ -- effect_of_step
    refine d_nil ?_
    have hC : (stepC st).length ≤ 1 := by cases st <;> simp [stepC]
    have hG : (stepG st).length ≤ st.cnt := by cases st <;> simp [stepG, Step.cnt]
    refine ⟨_, ⟨U (effs d).cuts, (effs d).drops, (effs d).new, stepC st, stepN st, stepG st, by omega, by omega, rfl, rfl⟩, ?_⟩ -- joined
    rw [join_step (form_effs okd).dec]
    refine ⟨rfl, some (.d (stepD st)), ?_⟩
    rw [effs_snoc]
    rfl
  · obtain ⟨rfl, x, rfl⟩ := h
    refine s_one ?_
    refine s_ret ?_
    refine d_var 1 rfl ?_ -- effect
    exact hk
theorem sc_effect_of : FnScope ["sequence"] ["sequence"] (C8.fnScope (top 41)) := C8.fnScope_by (by decide +kernel)
theorem cal_effect_of (D : C8.Def K mg "effect_of" (top 41) f fd) (b : Binds K fd ["sequence"] []) (B : Bl mg) (c_check_sequence : C8.Cal P w K mg base 4 "check_sequence" (spF K fsChkSeq) []) (c_effect_of_valid : C8.Cal P w K mg base 4 "effect_of_valid" (spF K fsEffOf) []) : C8.Cal P w K mg base 5 "effect_of" (spF K fsEffOf) [] := by
  refine calD D b sc_effect_of (fun as μ k F ⟨_, ⟨n, _, _, _, _, _, h, _⟩, _⟩ => by rw [h]; rfl) fun cdv A outer s H E hr as μ k F ⟨r, ⟨ss, a, hl, ht, ok, sq, h, hr'⟩, hk⟩ => ?_
  subst h hr'
  refine s_cons ?_
  refine s_expr ?_
  refine d_call c_check_sequence hr (by decide) rfl ?_
  refine d_cons ?_
  refine d_var 0 rfl ?_ -- sequence
  refine d_nil ?_
  refine ⟨_, ⟨ss, a, by omega, ok, sq, rfl, rfl⟩, ?_⟩ -- check_sequence
  refine s_one ?_
  refine s_ret ?_
  refine d_call c_effect_of_valid hr (by decide) rfl ?_
  refine d_cons ?_
  refine d_var 0 rfl ?_ -- sequence
  refine d_nil ?_
  exact ⟨_, ⟨ss, a, hl, ht, ok, sq, rfl, rfl⟩, hk⟩ -- effect_of_valid
/-! ### is_effect, check_effect, removed_by, removed, applied -/
structure EffOk (C : List Pr) (d : Nat) (g : List Int) : Prop where
  len : C.length < 100000
  len2 : g.length < 100000
  str : C.Pairwise fun p q => p.1 < q.1 ∧ q.2 < p.2
  low : ∀ p ∈ C, p.2 ≤ d
  dec : Dec g
  top : ∀ y, g.head? = some y → ∃ p ∈ C, y ≤ p.1
def fsIsEff : FS := ret fun as r => ∃ (C : List Pr) (d : Nat) (g : List Int), EffOk C d g ∧ as = [.d (effD C d (runs g))] ∧ r = .bool true
theorem effOk {ss : List K87M.Step} (hl : ss.length < 50000) (ht : total ss < 50000) (ok : ∀ s ∈ ss, s.Ok) : EffOk (U (effs ss).cuts) (effs ss).drops (effs ss).new := by
  have f := form_effs ok
  have eb := effs_len ss
  have ul := U_len (effs ss).cuts
  refine ⟨by omega, by omega, U_strict _, fun p hp => f.low p (mem_U.mp hp).1, f.dec, fun y hy => ?_⟩
  obtain ⟨p, hp, h⟩ := f.top y hy
  obtain ⟨q, hq, hd⟩ := U_dom hp
  exact ⟨q, hq, Int.le_trans h hd.1⟩
theorem sc_is_effect : FnScope ["value", "pairs", "drops", "new"] ["value"] (C8.fnScope (top 32)) := C8.fnScope_by (by decide +kernel)
theorem last_max : ∀ {C : List Pr} (ne : C ≠ []), (C.Pairwise fun p q => p.1 < q.1 ∧ q.2 < p.2) → ∀ p ∈ C, p.1 ≤ (C.getLast ne).1
  | [q], _, _, p, hp => by rw [List.mem_singleton.mp hp]; exact Int.le_refl _
  | q :: r :: C, ne, h, p, hp => by
    (obtain ⟨h1, h2⟩ := List.pairwise_cons.mp h); rw [List.getLast_cons (by simp : r :: C ≠ [])]
    (have ih := last_max (C := r :: C) (by simp) h2); rcases List.mem_cons.mp hp with e | hp
    · subst e
      have := (h1 r (List.mem_cons_self ..)).1
      have := ih r (List.mem_cons_self ..)
      omega
    · exact ih p hp
theorem cal_is_effect (D : C8.Def K mg "is_effect" (top 32) f fd) (b : Binds K fd ["value"] []) (B : Bl mg) (c_are_pairs : C8.Cal P w K mg base 3 "are_pairs" (spF K fsArePairs) []) (c_is_integer : C8.Cal P w K mg base 1 "is_integer" (spF K fsIsInt) []) (c_is_stack : C8.Cal P w K mg base 4 "is_stack" (spF K fsIsStack) []) : C8.Cal P w K mg base 5 "is_effect" (spF K fsIsEff) [] := by
  refine calD D b sc_is_effect (fun as μ k F ⟨_, ⟨n, _, _, _, h, _⟩, _⟩ => by rw [h]; rfl) fun cdv A outer s H E hr as μ k F ⟨r, ⟨C, d, g, ok, h, hr'⟩, hk⟩ => ?_
  subst h hr'
  have lg := runs_len g
  have lg2 := ok.len2
  refine s_cons ?_
  refine s_if ?_
  refine d_tW ?_
  refine d_wor ?_
  refine d_tnot ?_
  refine d_tval ?_
  refine d_isi rfl B.isinstance rfl B.tuple bt_tuple ?_
  refine d_var 0 rfl ?_ -- value
  refine ⟨_, _, rfl, kt_tt, _, rfl, fun h => absurd h (by decide), fun _ => ?_⟩
  refine d_wor1 ?_
  refine d_tcmp (op_neD hr.units) rfl ?_
  refine d_len rfl B.len ?_
  refine d_var 0 rfl ?_ -- value
  refine ⟨_, .tup _, ?_⟩
  refine d_int ?_
  refine dr_neG ⟨_, _, 0, 0, rfl, rfl, .int _ _, .int _ _, by decide, by decide, fun h => ⟨_, rfl, fun h => absurd h (by decide), fun _ => ?_⟩, fun h => absurd rfl h⟩
  refine s_nil ?_
  refine s_cons ?_
  refine s_asg ?_
  refine d_var 0 rfl ?_ -- value
  refine g_tup rfl ⟨_, rfl, rfl, ?_⟩
  refine gs_cons (g_name 1 ?_ sc_is_effect.nd)
  refine gs_cons (g_name 2 ?_ sc_is_effect.nd)
  refine gs_cons (g_name 3 ?_ sc_is_effect.nd)
  refine gs_nil ?_
  refine s_cons ?_
  refine s_if ?_
  refine d_tW ?_
  refine d_wor ?_
  refine d_tnot ?_
  refine d_tval ?_
  refine d_call c_are_pairs hr (by decide) rfl ?_
  refine d_cons ?_
  refine d_var 1 rfl ?_ -- pairs
  refine d_nil ?_
  refine ⟨_, ⟨C, ok.len, ok.str, rfl, rfl⟩, _, rfl, fun h => absurd h (by decide), fun _ => ?_⟩ -- are_pairs
  refine d_wor ?_
  refine d_tnot ?_
  refine d_tval ?_
  refine d_call c_is_integer hr (by decide) rfl ?_
  refine d_cons ?_
  refine d_var 2 rfl ?_ -- drops
  refine d_nil ?_
  refine ⟨_, ⟨_, rfl, rfl⟩, _, rfl, fun h => absurd h (by decide), fun _ => ?_⟩ -- is_integer
  refine d_wor ?_
  refine d_tcmp op_lt rfl ?_
  refine d_var 2 rfl ?_ -- drops
  refine d_int ?_
  refine dr_c ⟨_, _, rfl, rfl, _, rfl, fun h => ?_, fun _ => ?_⟩
  · have h' := of_decide_eq_true h
    exact absurd h' (by omega)
  refine d_wor1 ?_
  refine d_tnot ?_
  refine d_tval ?_
  refine d_call c_is_stack hr (by decide) rfl ?_
  refine d_cons ?_
  refine d_var 3 rfl ?_ -- new
  refine d_nil ?_
  refine ⟨_, ⟨runs g, by omega, run_pos, dec_runs ok.dec, rfl, rfl⟩, _, rfl, fun h => absurd h (by decide), fun _ => ?_⟩ -- is_stack
  refine s_nil ?_
  have gnil : C = [] → g = [] := fun e => by
    cases g with
    | nil => rfl
    | cons y t =>
      obtain ⟨p, hp, _⟩ := ok.top y rfl
      rw [e] at hp; cases hp
  refine s_cons ?_
  refine s_if ?_
  refine d_tcmp (op_eqD hr.units) rfl ?_
  refine d_var 1 rfl ?_ -- pairs
  refine d_tup ?_
  refine d_nil ?_
  refine ⟨[], rfl, by simp, ?_⟩
  refine dr_eqG ⟨_, _, 2, 1, rfl, rfl, gd_rns 0 _, gd_nilT 0, by decide, by decide, fun h => ⟨_, rfl, fun _ => ?_, fun h => absurd h (by decide)⟩, fun h => ⟨_, rfl, fun h => absurd h (by decide), fun _ => ?_⟩⟩
  · have e0 : C = [] := Classical.byContradiction fun z => rns_ne z h
    have e1 := gnil e0
    subst e1
    refine s_one ?_
    refine s_ret ?_
    refine d_cmp (op_eqD hr.units) rfl ?_
    refine d_var 3 rfl ?_ -- new
    refine d_tup ?_
    refine d_nil ?_
    refine ⟨[], rfl, by simp, ?_⟩
    refine dr_eqG ⟨_, _, 2, 1, rfl, rfl, gd_rns 0 _, gd_nilT 0, by decide, by decide, fun h => hk, fun h => absurd rfl h⟩
  have ne : C ≠ [] := fun z => h (by rw [z]; rfl)
  obtain ⟨⟨cx, cn⟩, ct, ec⟩ := List.exists_cons_of_ne_nil ne
  refine s_nil ?_
  refine s_one ?_
  refine s_ret ?_
  refine d_and ?_
  refine d_cmp op_le rfl ?_
  refine d_ix ?_
  refine d_ix ?_
  refine d_var 1 rfl ?_ -- pairs
  refine d_int ?_
  refine ⟨_, _, .d (runD (cx, cn)), .tup _, rfl, ?_, ?_⟩
  · rw [ec]; exact atI_0 _ _
  refine d_int ?_
  refine ⟨_, _, iv cn, .tup _, rfl, rfl, ?_⟩
  refine d_var 2 rfl ?_ -- drops
  refine dr_c ⟨_, _, rfl, rfl, _, rfl, fun _ => ?_, fun h => ?_⟩
  rotate_left
  · have h' := of_decide_eq_false h
    have := ok.low (cx, cn) (by rw [ec]; exact List.mem_cons_self ..)
    exact absurd (show (cn : Int) ≤ d by simp at this; omega) h'
  refine d_one ?_
  refine d_or ?_
  refine d_cmp (op_eqD hr.units) rfl ?_
  refine d_var 3 rfl ?_ -- new
  refine d_tup ?_
  refine d_nil ?_
  refine ⟨[], rfl, by simp, ?_⟩
  refine dr_eqG ⟨_, _, 2, 1, rfl, rfl, gd_rns 0 _, gd_nilT 0, by decide, by decide, fun h => ⟨_, rfl, fun _ => hk, fun h => absurd h (by decide)⟩, fun h => ⟨_, rfl, fun h => absurd h (by decide), fun _ => ?_⟩⟩
  have hb : runs g ≠ [] := fun z => h (by rw [z]; rfl)
  obtain ⟨⟨y, c⟩, tb, eb⟩ := List.exists_cons_of_ne_nil hb
  have hd := runs_head eb
  obtain ⟨p, hp, hyp⟩ := ok.top y hd
  have lm := last_max ne ok.str p hp
  refine d_one ?_
  refine d_cmp op_le rfl ?_
  refine d_ix ?_
  refine d_ix ?_
  refine d_var 3 rfl ?_ -- new
  refine d_int ?_
  refine ⟨_, _, .d (runD (y, c)), .tup _, rfl, ?_, ?_⟩
  · rw [eb]; exact atI_0 _ _
  refine d_int ?_
  refine ⟨_, _, iv y, .tup _, rfl, rfl, ?_⟩
  refine d_ix ?_
  refine d_ix ?_
  refine d_var 1 rfl ?_ -- pairs
  refine d_neg ?_
  refine d_int ?_
  refine ⟨_, rfl, ?_⟩
  refine ⟨_, _, .d (runD (C.getLast ne)), .tup _, rfl, ?_, ?_⟩
  · have this := congrArg (List.map runD) (List.dropLast_concat_getLast ne).symm
    rw [List.map_append] at this
    rw [this, List.map_append]
    exact atI_last _ _
  refine d_int ?_
  refine ⟨_, _, iv (C.getLast ne).1, .tup _, rfl, rfl, ?_⟩
  refine dr_c ⟨_, _, rfl, rfl, ?_⟩
  refine kb (decide_eq_true ?_) hk
  exact Int.le_trans hyp lm
def fsChkEff : FS := ret fun as r => ∃ (C : List Pr) (d : Nat) (g : List Int), EffOk C d g ∧ as = [.d (effD C d (runs g))] ∧ r = .none
theorem sc_check_effect : FnScope ["value"] ["value"] (C8.fnScope (top 33)) := C8.fnScope_by (by decide +kernel)
theorem cal_check_effect (D : C8.Def K mg "check_effect" (top 33) f fd) (b : Binds K fd ["value"] []) (B : Bl mg) (c_is_effect : C8.Cal P w K mg base 5 "is_effect" (spF K fsIsEff) []) : C8.Cal P w K mg base 6 "check_effect" (spF K fsChkEff) [] := by
  refine calD D b sc_check_effect (fun as μ k F ⟨_, ⟨n, _, _, _, h, _⟩, _⟩ => by rw [h]; rfl) fun cdv A outer s H E hr as μ k F ⟨r, ⟨C, d, g, ok, h, hr'⟩, hk⟩ => ?_
  subst h hr'
  refine s_one ?_
  refine s_if ?_
  refine d_tnot ?_
  refine d_tval ?_
  refine d_call c_is_effect hr (by decide) rfl ?_
  refine d_cons ?_
  refine d_var 0 rfl ?_ -- value
  refine d_nil ?_
  refine ⟨_, ⟨C, d, g, ok, rfl, rfl⟩, _, rfl, fun h => absurd h (by decide), fun _ => ?_⟩ -- is_effect
  refine s_nil ?_
  exact hk
def fsRemBy : FS := ret fun as r => ∃ (C : List Pr) (d : Nat) (rs : List (Int × Nat)) (h : List Int), C.length < 100000 ∧ h.length < 100000 ∧ tk h d C ≤ h.length ∧ as = [.d (effD C d rs), .d (stk h)] ∧ r = .int (tk h d C)
theorem sc_removed_by : FnScope ["effect", "stack", "many"] ["effect", "stack"] (C8.fnScope (top 42)) := C8.fnScope_by (by decide +kernel)
theorem cal_removed_by (D : C8.Def K mg "removed_by" (top 42) f fd) (b : Binds K fd ["effect", "stack"] []) (B : Bl mg) (c_taken : C8.Cal P w K mg base 2 "taken" (spF K fsTaken) []) (c_size_of : C8.Cal P w K mg base 1 "size_of" (spF K fsSizeOf) []) : C8.Cal P w K mg base 3 "removed_by" (spF K fsRemBy) [] := by
  refine calD D b sc_removed_by (fun as μ k F ⟨_, ⟨_, _, _, n, _, _, _, h, _⟩, _⟩ => by rw [h]; rfl) fun cdv A outer s H E hr as μ k F ⟨r, ⟨C, d, rs, g, h1, h2, h3, h, hr'⟩, hk⟩ => ?_
  subst h hr'
  refine s_cons ?_
  refine s_set 2 ?_ sc_removed_by.nd -- many
  refine d_call c_taken hr (by decide) rfl ?_
  refine d_cons ?_
  refine d_var 0 rfl ?_ -- effect
  refine d_cons ?_
  refine d_var 1 rfl ?_ -- stack
  refine d_nil ?_
  refine ⟨_, ⟨C, d, rs, g, h1, h2, rfl, rfl⟩, ?_⟩ -- taken
  refine s_one ?_
  refine s_ret ?_
  refine d_if ?_
  refine d_tcmp op_le rfl ?_
  refine d_var 2 rfl ?_ -- many
  refine d_call c_size_of hr (by decide) rfl ?_
  refine d_cons ?_
  refine d_var 1 rfl ?_ -- stack
  refine d_nil ?_
  refine ⟨_, ⟨g, h2, rfl, rfl⟩, ?_⟩ -- size_of
  refine dr_c ⟨_, _, rfl, rfl, _, rfl, ?_⟩
  refine ⟨fun h => ?_, fun h => ?_⟩
  · refine d_var 2 rfl ?_ -- many
    exact hk
  · have h' := of_decide_eq_false h
    exact absurd (by omega) h'
def fsRemoved : FS := ret fun as r => ∃ (C : List Pr) (d : Nat) (g : List Int) (h : List Int), EffOk C d g ∧ Dec h ∧ h.length < 100000 ∧ tk h d C ≤ h.length ∧ as = [.d (effD C d (runs g)), .d (stk h)] ∧ r = .int (tk h d C)
theorem sc_removed : FnScope ["effect", "stack"] ["effect", "stack"] (C8.fnScope (top 43)) := C8.fnScope_by (by decide +kernel)
theorem cal_removed (D : C8.Def K mg "removed" (top 43) f fd) (b : Binds K fd ["effect", "stack"] []) (B : Bl mg) (c_check_effect : C8.Cal P w K mg base 6 "check_effect" (spF K fsChkEff) []) (c_check_stack : C8.Cal P w K mg base 5 "check_stack" (spF K fsChkStack) []) (c_removed_by : C8.Cal P w K mg base 3 "removed_by" (spF K fsRemBy) []) : C8.Cal P w K mg base 7 "removed" (spF K fsRemoved) [] := by
  refine calD D b sc_removed (fun as μ k F ⟨_, ⟨_, _, _, n, _, _, _, _, h, _⟩, _⟩ => by rw [h]; rfl) fun cdv A outer s H E hr as μ k F ⟨r, ⟨C, d, g, h', ok, dh, h2, h3, h, hr'⟩, hk⟩ => ?_
  subst h hr'
  have lh := runs_len h'
  refine s_cons ?_
  refine s_expr ?_
  refine d_call c_check_effect hr (by decide) rfl ?_
  refine d_cons ?_
  refine d_var 0 rfl ?_ -- effect
  refine d_nil ?_
  refine ⟨_, ⟨C, d, g, ok, rfl, rfl⟩, ?_⟩ -- check_effect
  refine s_cons ?_
  refine s_expr ?_
  refine d_call c_check_stack hr (by decide) rfl ?_
  refine d_cons ?_
  refine d_var 1 rfl ?_ -- stack
  refine d_nil ?_
  refine ⟨_, ⟨runs h', by omega, run_pos, dec_runs dh, rfl, rfl⟩, ?_⟩ -- check_stack
  refine s_one ?_
  refine s_ret ?_
  refine d_call c_removed_by hr (by decide) rfl ?_
  refine d_cons ?_
  refine d_var 0 rfl ?_ -- effect
  refine d_cons ?_
  refine d_var 1 rfl ?_ -- stack
  refine d_nil ?_
  exact ⟨_, ⟨C, d, runs g, h', ok.len, h2, h3, rfl, rfl⟩, hk⟩ -- removed_by
def fsApplied : FS := ret fun as r => ∃ (C : List Pr) (d : Nat) (g : List Int) (h : List Int), EffOk C d g ∧ Dec h ∧ h.length + g.length < 100000 ∧ tk h d C ≤ h.length ∧ as = [.d (effD C d (runs g)), .d (stk h)] ∧ r = stk (h.take (h.length - tk h d C) ++ g)
theorem sc_applied : FnScope ["effect", "stack", "many"] ["effect", "stack"] (C8.fnScope (top 44)) := C8.fnScope_by (by decide +kernel)
theorem cal_applied (D : C8.Def K mg "applied" (top 44) f fd) (b : Binds K fd ["effect", "stack"] []) (B : Bl mg) (c_removed : C8.Cal P w K mg base 7 "removed" (spF K fsRemoved) []) (c_joined_runs : C8.Cal P w K mg base 1 "joined_runs" (spF K fsJoinedRuns) []) (c_popped : C8.Cal P w K mg base 1 "popped" (spF K fsPopped) []) : C8.Cal P w K mg base 8 "applied" (spF K fsApplied) [] := by
  refine calD D b sc_applied (fun as μ k F ⟨_, ⟨_, _, _, n, _, _, _, _, h, _⟩, _⟩ => by rw [h]; rfl) fun cdv A outer s H E hr as μ k F ⟨r, ⟨C, d, g, h', ok, dh, h2, h3, h, hr'⟩, hk⟩ => ?_
  subst h hr'
  refine s_cons ?_
  refine s_set 2 ?_ sc_applied.nd -- many
  refine d_call c_removed hr (by decide) rfl ?_
  refine d_cons ?_
  refine d_var 0 rfl ?_ -- effect
  refine d_cons ?_
  refine d_var 1 rfl ?_ -- stack
  refine d_nil ?_
  refine ⟨_, ⟨C, d, g, h', ok, dh, by omega, h3, rfl, rfl⟩, ?_⟩ -- removed
  refine s_cons ?_
  refine s_if ?_
  refine d_tcmp op_isN rfl ?_
  refine d_var 2 rfl ?_ -- many
  refine d_non ?_
  refine dr_isN ⟨false, rfl, .inr ⟨fun K G v r => by rw [rep_int r]; exact fun z => (nomatch z), rfl⟩, _, rfl, fun h => absurd h (by decide), fun _ => ?_⟩
  refine s_nil ?_
  refine s_one ?_
  refine s_ret ?_
  refine d_call c_joined_runs hr (by decide) rfl ?_
  refine d_cons ?_
  refine d_call c_popped hr (by decide) rfl ?_
  refine d_cons ?_
  refine d_var 1 rfl ?_ -- stack
  refine d_cons ?_
  refine d_var 2 rfl ?_ -- many
  refine d_nil ?_
  refine ⟨_, ⟨h', tk h' d C, by omega, h3, rfl, rfl⟩, ?_⟩ -- popped
  refine d_cons ?_
  refine d_ix ?_
  refine d_var 0 rfl ?_ -- effect
  refine d_int ?_
  refine ⟨_, _, .d (stk g), .tup _, rfl, rfl, ?_⟩
  refine d_nil ?_
  exact ⟨_, ⟨_, g, by rw [List.length_take]; omega, rfl, rfl⟩, hk⟩ -- joined_runs
end
end K87
end

section
set_option Elab.async false
set_option linter.all false
set_option maxRecDepth 100000
set_option maxHeartbeats 1100000
set_option autoImplicit false
/-! A generator whose consumer changes its own frame's names between two items. -/
namespace K87
open PySem PySem.Spec PyProof.Rows L2 GenW
theorem frames_but {base : Heap} {h h' : Heap} (k : ∀ b o, h.get? b = some o → (∀ vs, o.data ≠ .fields vs) → ∃ o', h'.get? b = some o' ∧ ∀ vs, o'.data ≠ .fields vs) : ∀ {l : List Env}, h.FunFrames base l → h'.FunFrames base l
  | [], _ => trivial
  | env :: rest, hl => by
    (obtain ⟨hk, ⟨L, o, hf, hn, ho, hd⟩, hr⟩ := hl); obtain ⟨o', ho', hd'⟩ := k L o ho hd
    exact ⟨hk, ⟨L, o', hf, hn, ho', hd'⟩, frames_but k hr⟩
/-- the state with another object at L -/
def rootS (s : Shared) (L : Addr) (o : Obj) : Shared := { s with heap := s.heap.update L fun _ => o }
theorem root_size {s : Shared} {L : Addr} {o : Obj} : (rootS s L o).heap.objs.size = s.heap.objs.size := Heap.size_update ..
theorem root_other {s : Shared} {L b : Addr} {o : Obj} (h : b ≠ L) : (rootS s L o).heap.get? b = s.heap.get? b := Heap.get?_update_other _ _ (Ne.symm h)
theorem root_self {s : Shared} {L : Addr} {o o0 : Obj} (h : s.heap.get? L = some o0) (hf : o.isFreed = false) : (rootS s L o).heap.get? L = some o := Heap.get?_update_self (fun _ => o) h hf
/-- the generator's context: the call's state, the consumer's frame as it stands now -/
def XR (P : Program) (w : World) (K : PySem.W.Frag) (mg : Str → Option Value) (base : Heap) (N : List Str) (qual : Str) (scope : Scope) (f : Addr) (cd : Value) (A : Around) (outer : List Env) (s : Shared) (H : Hp) (E : XK) (pn : List (Addr × Obj)) (L : Addr) (o : Obj) : Cx :=
  { gcxOf P w K mg base N qual scope f cd A outer s H E pn with
    s_0 := rootS s L o
    xe := fun e0 s' => wpAny (model P w) (A.deeper (envOfC qual scope s.heap.objs.size f cd)) (leaving (envOfC qual scope s.heap.objs.size f cd) e0)
      (fun _ s'' => CX P w outer H (rootS s L o) E e0 s'' ∧ ∀ p ∈ pn, s''.heap.get? p.1 = some p.2) (fun _ _ => False) s' }
/-- what a sleeping generator's state bears: the frame at L written, all else as it is -/
structure SlpL (L : Addr) (s s' : Shared) : Prop where
  os : s'.os = s.os
  bare : AllBare s'.gens
  keep : ∀ b o, b ≠ L → s.heap.get? b = some o → s'.heap.get? b = some o
  at' : ∃ o, s'.heap.get? L = some o ∧ ∀ vs, o.data ≠ .fields vs
  ns : ∃ m, s'.heap.Ns L m
/-- a frame is a dict -/
theorem ns_at {h h' : Heap} {L : Addr} {o : Obj} {m : Str → Option Value} (n : h.Ns L m) (e : h.get? L = some o) (e' : h'.get? L = some o) : h'.Ns L m := by
  obtain ⟨o', es, ep, ho, r⟩ := n
  rw [e] at ho
  cases ho
  exact ⟨o, es, ep, e', r⟩
section
variable {P : Program} {w : World} {K : PySem.W.Frag} {mg : Str → Option Value} {base : Heap} {N : List Str} {qual : Str} {scope : Scope} {f : Addr} {cd : Value} {A : Around} {outer : List Env} {s : Shared} {H : Hp} {E : XK} {pn : List (Addr × Obj)} {L : Addr} {o o' : Obj}
theorem takes_XR : Takes (XR P w K mg base N qual scope f cd A outer s H E pn L o) (fun cls d _ H' => E cls d H') := fun u s' x =>
  XE.leaveG (W := fun cls d _ H' => E cls d H') (E := E) rfl rfl rfl (fun _ _ _ _ hh => hh) x
theorem owns_XR : PassesOwn (model P w) (XR P w K mg base N qual scope f cd A outer s H E pn L o).A (XR P w K mg base N qual scope f cd A outer s H E pn L o).env (XR P w K mg base N qual scope f cd A outer s H E pn L o).xe :=
  passes_of (X := XR P w K mg base N qual scope f cd A outer s H E pn L o) (K := fun e s'' => CX P w outer H (rootS s L o) E e s'' ∧ ∀ p ∈ pn, s''.heap.get? p.1 = some p.2) (E₁ := fun _ _ => False) rfl
/-- the frame at L has been written while it slept -/
theorem reroot {ip : List (Addr × Obj)} {σ : L2.St} {H1 : Hp} {s1 s2 : Shared} {o0 : Obj} (hL0 : s.heap.get? L = some o0) (hLf : L ∈ frs outer) (hcl : ∀ x c, (envOfC qual scope s.heap.objs.size f cd).cells.lookup x = some c → c ≠ L) (I : Inv (XR P w K mg base N qual scope f cd A outer s H E pn L o) ip σ H1 s1) (hoL : (rootS s L o).heap.get? L = some o)
    (z : SlpL L s1 s2) (h2 : s2.heap.get? L = some o') (hd : ∀ vs, o'.data ≠ .fields vs) : Inv (XR P w K mg base N qual scope f cd A outer s H E pn L o') ip σ H1 s2 := by
  have hfree : o'.isFreed = false := (Heap.get?_some_iff.mp h2).2
  have hL1 : (rootS s L o').heap.get? L = some o' := root_self hL0 hfree
  have hHL : H L = none := I.ok.frf L hLf
  have hH1L : H1 L = none := I.base.free L o hoL hHL (by intro z; cases z)
  have hLlt : L < s.heap.objs.size := Heap.lt_size hL0
  have hloc : s.heap.objs.size ≤ (XR P w K mg base N qual scope f cd A outer s H E pn L o).env.locals := Nat.le_refl _
  have hLne : L ≠ (XR P w K mg base N qual scope f cd A outer s H E pn L o).env.locals := Nat.ne_of_lt (Nat.lt_of_lt_of_le hLlt hloc)
  have same : ∀ b, b ≠ L → (rootS s L o').heap.get? b = (rootS s L o).heap.get? b := fun b hb => (root_other hb).trans (root_other hb).symm
  have cellK : ∀ x c, (XR P w K mg base N qual scope f cd A outer s H E pn L o).env.cells.lookup x = some c → ∀ v, s1.heap.IsCell c v → s2.heap.IsCell c v := fun x c e v ⟨ob, ho, hdd⟩ => by
    have hc : c ≠ L := hcl x c e
    exact ⟨ob, z.keep c ob hc ho, hdd⟩
  refine ⟨⟨I.ok.mod, I.ok.kind, I.ok.glob, I.ok.blt, ?_, I.ok.inj, I.ok.has, ?_, I.ok.hd, I.ok.frames, I.ok.stk, I.ok.exf, ?_, ?_, I.ok.noex, I.ok.exfs, ?_, I.ok.frf⟩, ?_, z.bare, ?_, ?_, ?_, I.free, I.freeC, ?_, ?_, I.len⟩
  · show (rootS s L o').heap.objs.size ≤ _
    rw [root_size]; exact hloc
  · intro x c h1 h2
    have := I.ok.cab x c h1 h2
    show (rootS s L o').heap.objs.size ≤ _
    have e : (XR P w K mg base N qual scope f cd A outer s H E pn L o).s_0.heap.objs.size = s.heap.objs.size := root_size
    rw [root_size, ← e]; exact this
  · intro b ob hb
    obtain ⟨q1, q2⟩ := I.ok.bs b ob hb
    refine ⟨?_, q2⟩
    by_cases e : b = L
    · subst e
      exact absurd hLf (I.ok.nofr hb)
    · show (rootS s L o').heap.get? b = _
      rw [same b e]; exact q1
  · show base.objs.size ≤ (rootS s L o').heap.objs.size
    rw [root_size, ← root_size (s := s) (L := L) (o := o)]
    exact I.ok.bsz
  · refine frames_but (fun b ob hb hdb => ?_) I.ok.funs
    by_cases e : b = L
    · subst e; exact ⟨o', hL1, hd⟩
    · exact ⟨ob, (same b e).trans hb, hdb⟩
  · exact z.os.trans I.os
  · refine ⟨fun b ob e n hb hx => ?_, fun b ob e n hb hx => ?_, fun b ob e n hx => ?_, fun b ob e hx => ?_, I.base.tups, I.base.frzs, I.base.tbls⟩
    · have hne : b ≠ L := fun q => hb (q ▸ hLf)
      exact z.keep b ob hne (I.base.keep b ob ((same b hne).symm.trans e) n hb hx)
    · by_cases q : b = L
      · subst q
        have e' : some o' = some ob := hL1.symm.trans e
        cases e'
        exact ⟨o'.slots, h2⟩
      · obtain ⟨sl, e1⟩ := I.base.slot b ob ((same b q).symm.trans e) n hb hx
        exact ⟨sl, z.keep b _ q e1⟩
    · by_cases q : b = L
      · subst q; exact hH1L
      · exact I.base.free b ob ((same b q).symm.trans e) n hx
    · by_cases q : b = L
      · subst q; exact ⟨o', h2⟩
      · obtain ⟨ob', e1⟩ := I.base.there b ob ((same b q).symm.trans e) hx
        exact ⟨ob', z.keep b _ q e1⟩
  · obtain ⟨m, ⟨ob, es, ep, ho, r⟩, hl⟩ := I.loc
    refine ⟨m, ⟨ob, es, ep, z.keep _ ob (Ne.symm hLne) ho, r⟩, fun i x v e1 e2 e3 => ?_⟩
    obtain ⟨u, r1, l⟩ := hl i x v e1 e2 e3
    refine ⟨u, r1, ?_⟩
    rcases l with l | ⟨k, c, e, q⟩
    · exact .inl l
    · exact .inr ⟨k, c, e, cellK x c e _ q⟩
  · intro x c e
    obtain ⟨v, q⟩ := I.cell x c e
    exact ⟨v, cellK x c e v q⟩
  · intro p hp
    obtain ⟨q1, q2, q3, q4, q5⟩ := I.pin p hp
    exact ⟨z.keep p.1 p.2 (fun e => q4 (e ▸ hLf)) q1, q2, q3, q4, q5⟩
  · intro b u e
    have nL : ∀ c u, H1 c = some u → c ≠ L := fun c u q hc => by rw [hc, hH1L] at q; cases q
    refine (I.hok b u e).stay (fun c v hc q => z.keep c v ?_ q) (fun _ q => q) fun _ _ q => q
    rcases hc with hc | hc
    · rw [hc]; exact nL b u e
    · exact nL c _ hc
end
end K87
end

section
set_option Elab.async false
set_option linter.all false
set_option maxRecDepth 100000
set_option maxHeartbeats 1100000
set_option autoImplicit false
namespace K87
open PySem PySem.Spec PyProof.Rows L2 GenW
section
variable {env : Env} {M : Model} {A : Around} {R : GenEnd} {Y : Protocol} {n : Nat} {s₀ : Shared} {c : Code} {fs : List Frame} {s : Shared}
  {K : Flow → Sem PySem.Fin} {J : Value → Sem PySem.Fin} {gd : Bool → Bool} {lv : List Value → List Value}
/-- a loop's call, inside a generator -/
abbrev loopFrame (env : Env) (K : Flow → Sem PySem.Fin) (J : Value → Sem PySem.Fin) (gd : Bool → Bool) (lv : List Value → List Value) (c : Code) (p : Pos) : Frame :=
  .ret (fun r => ((match r with | .ok fl => (.pure fl : Sem Flow) | .error er => .raise er).onRaise fun (er : Value) => do
        if (← field er 1) == Value.none then unsupported "frame.own-activation:exception-without-traceback"
        setFlight er env.frame).wrap K J gd lv) none (gd false) (lv []) c p []
theorem seg_runOwn {c' : Code} (h : ∀ p, Seg M A R Y n s₀ c' (M.den c') (loopFrame env K J gd lv c p :: fs) s) : Seg M A R Y n s₀ c ((runOwn c' env).wrap K J gd lv) fs s := seg_call h
theorem seg_For {target iter : Expr} {body : List Stmt} {pos : Pos} (h : wpAny M (A.over c fs) (eval iter env) (fun x s1 => wpAny M (A.over c fs) (pyIter x) (fun it s2 => ∀ p, Seg M A R Y n s₀ (.forLoop target it body [] env) (M.den (.forLoop target it body [] env)) (loopFrame env K J gd lv c p :: fs) s2) (fun x s' => Seg M A R Y n s₀ c (J x) fs s') s1) (fun x s' => Seg M A R Y n s₀ c (J x) fs s') s) (hs : ∀ x, foldedSetIterable iter env x = pure x := by intro _; rfl) : Seg M A R Y n s₀ c ((exec (.For target iter body [] pos) env).wrap K J gd lv) fs s := by
  rw [exec_For]
  (refine seg_bind_wrap (wpAny_standAt ?_)); refine seg_bind_wrap (wpAny_mono h (fun x s1 h1 => ?_) fun _ _ e => e)
  refine seg_bind_wrap (wpAny_of_eq (hs x) ?_)
  (refine seg_bind_wrap (wpAny_standAt ?_)); refine seg_bind_wrap (wpAny_holding (wpAny_mono h1 (fun it s2 h2 => ?_) fun _ _ e => e))
  exact seg_runOwn h2
end
section
variable {prog : Program} {w : World} {A : Around} {R : GenEnd} {Y : Protocol} {n : Nat} {s₀ : Shared} {fs : List Frame} {s : Shared} {env : Env} {target : Expr} {it : Value} {body : List Stmt}
abbrev loopExc (env : Env) (e : Value) : Sem PySem.Fin := (do noteFrame e env; theTreesLotGoes e : Sem Unit).wrap (fun _ => .raise e) .raise id id
theorem seg_forLoop
    (h : wpAny (model prog w) (A.over (.forLoop target it body [] env) fs) (pyNext it) (fun r s1 => match r with
      | none => Seg (model prog w) A R Y n s₀ (.forLoop target it body [] env) (.pure (.again (.block [] env))) fs s1
      | some v => wpAny (model prog w) (A.over (.forLoop target it body [] env) fs) (letOwnedTupleGo target it v) (fun _ s2 => wpAny (model prog w) (A.over (.forLoop target it body [] env) fs) (assign target env v) (fun _ s3 =>
          Seg (model prog w) A R Y n s₀ (.forLoop target it body [] env) ((execs body env).wrap (fun f => match f with
            | .next | .cont => .pure (.again (.forLoop target it body [] env))
            | .brk => .pure (.done .next)
            | .ret v => .pure (.done (.ret v))) (loopExc env) id id) fs s3)
          (fun x s' => Seg (model prog w) A R Y n s₀ (.forLoop target it body [] env) (loopExc env x) fs s') s2) (fun x s' => Seg (model prog w) A R Y n s₀ (.forLoop target it body [] env) (loopExc env x) fs s') s1)
      (fun x s' => Seg (model prog w) A R Y n s₀ (.forLoop target it body [] env) (loopExc env x) fs s') s) :
    Seg (model prog w) A R Y n s₀ (.forLoop target it body [] env) ((model prog w).den (.forLoop target it body [] env)) fs s := by
  show Seg _ A R Y n s₀ _ ((forTurn target it body [] env).onRaise (fun x => do noteFrame x env; theTreesLotGoes x)) fs s
  have eH : (fun e => ((do noteFrame e env; theTreesLotGoes e : Sem Unit).bind fun _ => (Sem.raise e : Sem PySem.Fin))) = loopExc env := by
    funext e
    rw [Sem.bind_eq_wrap]
  rw [Sem.onRaise_eq_wrap, eH]
  unfold forTurn
  (refine seg_bind_wrap (wpAny_standAt ?_)); refine seg_bind_wrap (wpAny_onRaise (wpAny_mono h (fun r s1 h1 => ?_) fun x s' hx => wpAny_standAt hx))
  cases r with
  | none => exact h1
  | some v =>
    refine seg_bind_wrap (wpAny_mono h1 (fun _ s2 h2 => ?_) fun _ _ e => e)
    refine seg_bind_wrap (wpAny_mono h2 (fun _ s3 h3 => ?_) fun _ _ e => e)
    (rw [Sem.bind_eq_wrap', Sem.wrap_wrap]); rw [Sem.wrap_congr (execs body env) _ _ (K' := fun f => match f with
            | .next | .cont => .pure (.again (.forLoop target it body [] env))
            | .brk => .pure (.done .next)
            | .ret v => .pure (.done (.ret v))) (H' := loopExc env) (fun f => by cases f <;> rfl) (fun e => by rfl)]
    exact h3
end
end K87
end

section
set_option Elab.async false
set_option linter.all false
set_option maxRecDepth 100000
set_option maxHeartbeats 1100000
set_option autoImplicit false
namespace K87
open PySem PySem.Spec PyProof.Rows L2 GenW
/-- no mutable object -/
def mu0 : Mu := fun _ => none
section
variable {P : Program} {w : World} {K : PySem.W.Frag} {mg : Str → Option Value} {base : Heap} {N : List Str} {qual : Str} {scope : Scope} {f : Addr} {cd : Value} {A : Around} {outer : List Env} {s : Shared} {H : Hp} {E : XK} {pn : List (Addr × Obj)} {L : Addr}
abbrev XRo (P : Program) (w : World) (K : PySem.W.Frag) (mg : Str → Option Value) (base : Heap) (N : List Str) (qual : Str) (scope : Scope) (f : Addr) (cd : Value) (A : Around) (outer : List Env) (s : Shared) (H : Hp) (E : XK) (pn : List (Addr × Obj)) (L : Addr) := XR P w K mg base N qual scope f cd A outer s H E pn L
/-- what a name of the generator's frame stands for -/
def Has (nm : Str) (N0 : Addr) (s : Shared) (x : V) : Prop := ∃ m u, s.heap.Ns N0 m ∧ m nm = some u ∧ RelV x u
theorem relV_uniq {x y : V} {u : Value} (h1 : RelV x u) (h2 : RelV y u) : x = y := by
  cases x <;> cases y <;> simp only [L2.RelV] at h1 h2 <;> first
    | rfl
    | (obtain ⟨t, h1⟩ := h1; obtain ⟨t', h2⟩ := h2; rw [h1] at h2; cases h2; done)
    | (obtain ⟨t, h1⟩ := h1; obtain ⟨t', h2⟩ := h2; rw [h1] at h2; cases h2; rfl)
    | (obtain ⟨t, h1⟩ := h1; rw [h1] at h2; cases h2; done)
    | (obtain ⟨t, h2⟩ := h2; rw [h1] at h2; cases h2; done)
    | (rw [h1] at h2; cases h2; done)
    | (rw [h1] at h2; cases h2; rfl)
theorem has_uniq {nm : Str} {N0 : Addr} {s : Shared} {x y : V} (h1 : Has nm N0 s x) (h2 : Has nm N0 s y) : x = y := by
  obtain ⟨m, u, ⟨o, es, ep, ho, hd, _, hf⟩, e, r⟩ := h1
  obtain ⟨m', u', ⟨o', es', ep', ho', hd', _, hf'⟩, e', r'⟩ := h2
  rw [ho] at ho'
  cases ho'
  rw [hd] at hd'
  cases hd'
  have : u = u' := by
    have a := hf nm
    have b := hf' nm
    rw [e] at a
    rw [e'] at b
    rw [a] at b
    cases b; rfl
  subst this
  exact relV_uniq r r'
/-- the end: the frame is left; or an exception leaves it -/
def RG (P : Program) (w : World) (K : PySem.W.Frag) (outer : List Env) (s : Shared) (H : Hp) (G : Hp) (E : XK) (pn : List (Addr × Obj)) (L : Addr) (nm : Str) (out : AV) (some' : Prop) : GenEnd := fun n s₀ r s1 =>
  ∃ o, s₀.heap.get? L = some o ∧
  ((n = 0 ∧ (r = .ok (.ret .none) ∨ r = .ok .next) ∧ ∃ G' H', (some' → ∀ x0, Has nm s.heap.objs.size s₀ x0 → Rep K G' x0 out) ∧ Stp G mu0 H G' mu0 H' ∧ MOk K G' mu0 H' ∧ s1.os = s.os ∧ AllBare s1.gens ∧ Un (frs outer) [] H H' (rootS s L o).heap s1.heap ∧ HOk P w H' s1.heap) ∨
  ∃ e, r = .error e ∧ (∃ m, (rootS s L o).heap.Ns L m) ∧ CX P w outer H (rootS s L o) E e s1 ∧ ∀ p ∈ pn, s1.heap.get? p.1 = some p.2)
/-- an item is handed out -/
def YG (P : Program) (w : World) (K : PySem.W.Frag) (mg : Str → Option Value) (base : Heap) (N : List Str) (qual : Str) (scope : Scope) (f : Addr) (cd : Value) (A : Around) (outer : List Env) (s : Shared) (H : Hp) (G : Hp) (E : XK) (pn : List (Addr × Obj)) (L : Addr) (nm : Str) (m : Nat) (out : Nat → AV) : Protocol := fun n s₀ v s1 kap =>
  ∃ o x ip σ G' H', s₀.heap.get? L = some o ∧ n < m ∧ RelV x v ∧ Has nm s.heap.objs.size s1 x ∧ Inv (XR P w K mg base N qual scope f cd A outer s H E pn L o) ip σ H' s1 ∧ Stp G mu0 H G' mu0 H' ∧ MOk K G' mu0 H' ∧ Rep K G' x (out (m - n)) ∧
    ∀ s', SlpL L s1 s' → kap (.send .none) s'
theorem FpOk.root {o o' : Obj} {ip : List (Addr × Obj)} {H1 : Hp} {b : Addr} (h : FpOk (XR P w K mg base N qual scope f cd A outer s H E pn L o) ip H1 b) : FpOk (XR P w K mg base N qual scope f cd A outer s H E pn L o') ip H1 b := by
  obtain ⟨h1, h2, h3, h4, h5, h6⟩ := h
  refine ⟨h1, h2, h3, ?_, h5, h6⟩
  rcases h4 with h4 | h4
  · exact .inl h4
  · right
    have e : (XR P w K mg base N qual scope f cd A outer s H E pn L o).s_0.heap.objs.size = s.heap.objs.size := root_size
    have e' : (XR P w K mg base N qual scope f cd A outer s H E pn L o').s_0.heap.objs.size = s.heap.objs.size := root_size
    rw [e']; rw [e] at h4; exact h4
theorem has_of {nm : Str} {q : Nat} {ip : List (Addr × Obj)} {σ : L2.St} {H1 : Hp} {s1 : Shared} {v : V} {o : Obj} (hq : N[q]? = some nm) (hnm : scope.names.lookup nm = some .local) (I : Inv (XR P w K mg base N qual scope f cd A outer s H E pn L o) ip σ H1 s1) (hv : σ[q]? = some (some v)) : Has nm s.heap.objs.size s1 v := by
  obtain ⟨m, hn, hl⟩ := I.loc
  obtain ⟨u, r, l⟩ := hl q nm v hq hv (.inl hnm)
  rcases l with ⟨_, e⟩ | ⟨k, _⟩
  · exact ⟨m, u, hn, e, r⟩
  · have hnm' : (envOfC qual scope s.heap.objs.size f cd).kindOf nm = some .local := hnm
    rcases k with k | k
    · have k' : (envOfC qual scope s.heap.objs.size f cd).kindOf nm = some .cell := k
      rw [hnm'] at k'; cases k'
    · have k' : (envOfC qual scope s.heap.objs.size f cd).kindOf nm = some .free := k
      rw [hnm'] at k'; cases k'
/-- an exception of the loop's leaves the def -/
theorem seg_exc {R : GenEnd} {Y : Protocol} {n : Nat} {s₀ s' : Shared} {o : Obj} {x : Value} {tg : Expr} {it : Value} {body fbody : List Stmt} {KK : Flow → Sem PySem.Fin} {JJ : Value → Sem PySem.Fin} {p : Pos}
    (hJ : ∀ (e : Value) (s' : Shared), (XR P w K mg base N qual scope f cd A outer s H E pn L o).xe e s' → Seg (model P w) A R Y n s₀ (.func fbody (envOfC qual scope s.heap.objs.size f cd)) (JJ e) [] s')
    (hx : (XR P w K mg base N qual scope f cd A outer s H E pn L o).xe x s') :
    Seg (model P w) A R Y n s₀ (.forLoop tg it body [] (envOfC qual scope s.heap.objs.size f cd)) (loopExc (envOfC qual scope s.heap.objs.size f cd) x) (loopFrame (envOfC qual scope s.heap.objs.size f cd) KK JJ id id (.func fbody (envOfC qual scope s.heap.objs.size f cd)) p :: []) s' := by
  have ov : A.over (.forLoop tg it body [] (envOfC qual scope s.heap.objs.size f cd)) (loopFrame (envOfC qual scope s.heap.objs.size f cd) KK JJ id id (.func fbody (envOfC qual scope s.heap.objs.size f cd)) p :: []) = A.deeper (envOfC qual scope s.heap.objs.size f cd) := (over_loop rfl rfl).trans over_func
  have came : ∀ {x : Value} {s' : Shared}, cameBackBy (model P w) (A.deeper (envOfC qual scope s.heap.objs.size f cd)) (envOfC qual scope s.heap.objs.size f cd) (XR P w K mg base N qual scope f cd A outer s H E pn L o).xe x s' →
      Seg (model P w) A R Y n s₀ (.func fbody (envOfC qual scope s.heap.objs.size f cd)) (((Sem.raise x : Sem Flow).onRaise (cameBack (envOfC qual scope s.heap.objs.size f cd))).wrap KK JJ id id) [] s' := fun {x s'} h => by
    show Seg _ _ _ _ _ _ _ (((cameBack (envOfC qual scope s.heap.objs.size f cd) x).bind fun _ => (Sem.raise x : Sem Flow)).wrap KK JJ id id) _ _
    (rw [Sem.bind_eq_wrap, Sem.wrap_wrap]); refine seg_wrap ?_
    rw [over_func]
    exact wpAny_mono h (fun _ s' hx => hJ x s' hx) fun y s' hx => hJ y s' hx
  refine seg_wrap ?_
  rw [ov]
  refine wpAny_bind (wpAny_mono ((owns_XR (P := P) (w := w) (K := K) (mg := mg) (base := base) (N := N) (qual := qual) (scope := scope) (f := f) (cd := cd) (A := A) (outer := outer) (s := s) (H := H) (E := E) (pn := pn) (L := L) (o := o)) x s' hx) (fun _ s'' hcb => wpAny_theTreesLotGoes ?_) fun y s'' hcb => ?_)
  · exact seg_leaf (.error x) (came hcb)
  · exact seg_leaf (.error y) (came hcb)
/-- the generator's loop: data walked, two statements, then an item handed out -/
theorem seg_walk {tg : Expr} {nm : Str} {q : Nat} {yp0 : Pos} {st1 st2 : Stmt} {yp ypos : Pos} {fbody : List Stmt} {KK : Flow → Sem PySem.Fin} {JJ : Value → Sem PySem.Fin} {p : Pos} {it : Addr} {fp : List Addr} {tn : Nat → Heap → Prop} {J : It} {α : Type} {l : List α} {enc : α → AV} {out : Nat → AV} {Iv : List α → Env' → Prop} {G GJ : Hp} {Pm : Mu → Prop} {FX : KF}
    (hL0 : ∃ oc, s.heap.get? L = some oc) (hLf : L ∈ frs outer) (hcl : ∀ x c, (envOfC qual scope s.heap.objs.size f cd).cells.lookup x = some c → c ≠ L) (hc : A.handled = none)
    (hq : N[q]? = some nm) (hnm : scope.names.lookup nm = some .local) (hdb : (nm == ("__debug__" : Str)) = false) (hcd : (nm == ("__classdict__" : Str)) = false) (hco : scope.isCoroutine = false) (hi : interactive (envOfC qual scope s.heap.objs.size f cd) = false)
    (hpre : ∀ (o : Obj) (d : List α) (a : α) (r : List α) (ρ : Env'), l = d ++ a :: r → Iv d ρ → dG (XR P w K mg base N qual scope f cd A outer s H E pn L o) E F0 tg (enc a) ρ mu0 fun ρ2 μ2 => dS (XR P w K mg base N qual scope f cd A outer s H E pn L o) E FX st1 ρ2 μ2 { nx := fun ρ3 μ3 => dS (XR P w K mg base N qual scope f cd A outer s H E pn L o) E FX st2 ρ3 μ3 { nx := fun ρ4 μ4 => μ4 = mu0 ∧ ρ4[q]? = some (some (out (d.length + 1))) ∧ Iv (d ++ [a]) ρ4, rt := fun _ _ => False }, rt := fun _ _ => False })
    (T : Turn P w K tg J fp it tn) (j : JOk K J GJ Pm (l.map enc)) (hPm : Pm mu0)
    (hK : ∀ (s₀ s1 : Shared) (o : Obj) (σ : L2.St) (G1 H1 : Hp) (pins : List (Addr × Obj)), s₀.heap.get? L = some o → Inv (XR P w K mg base N qual scope f cd A outer s H E pn L o) pins σ H1 s1 → Stp G mu0 H G1 mu0 H1 → MOk K G1 mu0 H1 → (0 < l.length → ∀ x0, Has nm s.heap.objs.size s₀ x0 → Rep K G1 x0 (out l.length)) →
      Seg (model P w) A (RG P w K outer s H G E pn L nm (out l.length) (0 < l.length)) (YG P w K mg base N qual scope f cd A outer s H G E pn L nm l.length out) 0 s₀ (.func fbody (envOfC qual scope s.heap.objs.size f cd)) (KK .next) [] s1)
    (hJ : ∀ (o : Obj) (n : Nat) (s₀ : Shared) (e : Value) (s' : Shared), s₀.heap.get? L = some o → (∃ m, (rootS s L o).heap.Ns L m) → (XR P w K mg base N qual scope f cd A outer s H E pn L o).xe e s' → Seg (model P w) A (RG P w K outer s H G E pn L nm (out l.length) (0 < l.length)) (YG P w K mg base N qual scope f cd A outer s H G E pn L nm l.length out) n s₀ (.func fbody (envOfC qual scope s.heap.objs.size f cd)) (JJ e) [] s')
    (hFX : ∀ (G1 H1 : Hp), Stp G mu0 H G1 mu0 H1 → MOk K G1 mu0 H1 → PostF K G1 mu0 H1 FX E) :
    ∀ (r d : List α) (o : Obj) (s₀ s1 : Shared) (σ : L2.St) (G1 H1 : Hp) (ρ : Env'), l = d ++ r → s₀.heap.get? L = some o → (rootS s L o).heap.get? L = some o → (∃ m, (rootS s L o).heap.Ns L m) → Inv (XR P w K mg base N qual scope f cd A outer s H E pn L o) [] σ H1 s1 → tn d.length s1.heap →
      (∀ b ∈ fp, FpOk (XR P w K mg base N qual scope f cd A outer s H E pn L o) [] H1 b) → SR K G1 σ ρ → MOk K G1 mu0 H1 → Stp G mu0 H G1 mu0 H1 → Ext GJ G1 → Iv d ρ → (d ≠ [] → s₀ = s1 ∧ ρ[q]? = some (some (out d.length))) →
      Seg (model P w) A (RG P w K outer s H G E pn L nm (out l.length) (0 < l.length)) (YG P w K mg base N qual scope f cd A outer s H G E pn L nm l.length out) r.length s₀
        (.forLoop tg (.ref it) [st1, st2, .Expr (.Yield (some (.Name nm yp0)) yp) ypos] [] (envOfC qual scope s.heap.objs.size f cd)) ((model P w).den (.forLoop tg (.ref it) [st1, st2, .Expr (.Yield (some (.Name nm yp0)) yp) ypos] [] (envOfC qual scope s.heap.objs.size f cd)))
        (loopFrame (envOfC qual scope s.heap.objs.size f cd) KK JJ id id (.func fbody (envOfC qual scope s.heap.objs.size f cd)) p :: []) s1 := by
  obtain ⟨oc, hL0⟩ := hL0
  have ov : ∀ (c' : Code), c'.weight = 0 → c'.cUnits = 0 → A.over c' (loopFrame (envOfC qual scope s.heap.objs.size f cd) KK JJ id id (.func fbody (envOfC qual scope s.heap.objs.size f cd)) p :: []) = A.deeper (envOfC qual scope s.heap.objs.size f cd) := fun c' h1 h2 => (over_loop h1 h2).trans over_func
  intro r
  induction r with
  | nil =>
    intro d o s₀ s1 σ G1 H1 ρ hl ho0 hoL hns I st hfp sr m stp ex iv hd0
    rw [List.append_nil] at hl
    subst hl
    refine seg_forLoop ?_
    rw [ov _ rfl rfl]
    have js := j.stop l.length H1 G1 mu0 m ex hPm (by rw [List.length_map]; exact Nat.le_refl _)
    refine wpAny_mono (T.done (XR P w K mg base N qual scope f cd A outer s H E pn L o) rfl rfl rfl rfl l.length [] s1 σ H1 (fun x s' => (XR P w K mg base N qual scope f cd A outer s H E pn L o).xe x s') I hfp st js) (fun r s2 ⟨hr, I2⟩ => ?_) fun x s' hx => seg_exc (fun e s' hx => hJ o _ s₀ e s' ho0 hns hx) hx
    subst hr
    refine seg_again rfl ?_
    refine seg_leaf (.ok .next) (hK s₀ s2 o σ G1 H1 [] ho0 I2 stp m fun h0 x0 hx0 => ?_)
    obtain ⟨rfl, hρ⟩ := hd0 fun z => by rw [z] at h0; exact Nat.lt_irrefl _ h0
    obtain ⟨v, hv, rv⟩ := sr.get q _ hρ
    rw [has_uniq hx0 (has_of hq hnm I hv)]
    exact rv
  | cons a r ih =>
    intro d o s₀ s1 σ G1 H1 ρ hl ho0 hoL hns I st hfp sr m stp ex iv hd0
    have exc : ∀ (n : Nat) (x : Value) (s' : Shared), (XR P w K mg base N qual scope f cd A outer s H E pn L o).xe x s' → Seg (model P w) A (RG P w K outer s H G E pn L nm (out l.length) (0 < l.length)) (YG P w K mg base N qual scope f cd A outer s H G E pn L nm l.length out) n s₀
        (.forLoop tg (.ref it) [st1, st2, .Expr (.Yield (some (.Name nm yp0)) yp) ypos] [] (envOfC qual scope s.heap.objs.size f cd)) (loopExc (envOfC qual scope s.heap.objs.size f cd) x) (loopFrame (envOfC qual scope s.heap.objs.size f cd) KK JJ id id (.func fbody (envOfC qual scope s.heap.objs.size f cd)) p :: []) s' :=
      fun n x s' hx => seg_exc (fun e s' hx => hJ o _ s₀ e s' ho0 hns hx) hx
    have hlen : l.length = d.length + 1 + r.length := by rw [hl, List.length_append, List.length_cons]; omega
    have hget : (l.map enc)[d.length]? = some (enc a) := by rw [hl]; simp
    refine seg_forLoop ?_
    rw [ov _ rfl rfl]
    have jg := j.go d.length H1 G1 mu0 m ex hPm (by rw [List.length_map, hlen]; omega)
    refine wpAny_mono (T.item (XR P w K mg base N qual scope f cd A outer s H E pn L o) rfl rfl rfl rfl d.length [] s1 σ H1 (fun x s' => (XR P w K mg base N qual scope f cd A outer s H E pn L o).xe x s') I hfp st jg) (fun rr s2 ⟨u, hr, h4⟩ => ?_) fun x s' hx => exc _ x s' hx
    subst hr
    refine wpAny_mono h4 (fun _ s5 ⟨x, H5, I5, r5, y5, st5, fr5⟩ => ?_) fun x s' hx => exc _ x s' hx
    obtain ⟨G3, st3, m3, r3⟩ := j.yld d.length H1 x H5 G1 mu0 (enc a) m ex hPm hget y5
    have I5' := I5.pinned (fun b hb => ⟨fr5 b hb, (hfp b hb).2⟩) (T.obj _ _ st5)
    refine wpAny_mono (hpre o d a r ρ hl iv x σ G3 H5 r3 (sr.ext st3.ex) m3 PostF.none (fun σ6 H6 => ∃ ρ6 G6 μ6, (dS (XR P w K mg base N qual scope f cd A outer s H E pn L o) E FX st1 ρ6 μ6 { nx := fun ρ3 μ3 => dS (XR P w K mg base N qual scope f cd A outer s H E pn L o) E FX st2 ρ3 μ3 { nx := fun ρ4 μ4 => μ4 = mu0 ∧ ρ4[q]? = some (some (out (d.length + 1))) ∧ Iv (d ++ [a]) ρ4, rt := fun _ _ => False }, rt := fun _ _ => False }) ∧ Stp G3 mu0 H5 G6 μ6 H6 ∧ MOk K G6 μ6 H6 ∧ SR K G6 σ6 ρ6) (fun σ' ρ' G' μ' H' h1 h2 h3 h4 => ⟨ρ', G', μ', h1, h2, h3, h4⟩) _ s5 u I5' r5) (fun _ s6 ⟨σ6, H6, I6, ρ6, G6, μ6, q6, stp6, m6, sr6⟩ => ?_) fun x s' hx => exc _ x s' hx
    have t6 := st3.trans stp6
    have pf6 : PostF K G6 μ6 H6 FX E := (hFX G3 H5 (stp.trans st3) m3).step stp6
    refine seg_execs_cons ?_
    refine seg_wrap ?_
    rw [ov _ rfl rfl]
    refine wpAny_mono (q6 σ6 G6 H6 sr6 m6 pf6 { nx := fun σ7 H7 => ∃ ρ7 G7 μ7, (dS (XR P w K mg base N qual scope f cd A outer s H E pn L o) E FX st2 ρ7 μ7 { nx := fun ρ4 μ4 => μ4 = mu0 ∧ ρ4[q]? = some (some (out (d.length + 1))) ∧ Iv (d ++ [a]) ρ4, rt := fun _ _ => False }) ∧ Stp G6 μ6 H6 G7 μ7 H7 ∧ MOk K G7 μ7 H7 ∧ SR K G7 σ7 ρ7, rt := fun _ _ => False } ⟨fun σ' ρ' G' μ' H' h1 h2 h3 h4 => ⟨ρ', G', μ', h1, h2, h3, h4⟩, fun _ _ _ _ _ h => h.elim, fun _ _ _ _ _ h => h.elim, fun _ _ _ _ _ h => h.elim⟩ _ s6 I6) (fun fl s7 h7 => ?_) fun x s' hx => exc _ x s' hx
    cases fl with
    | brk => obtain ⟨_, _, _, h⟩ := h7; exact h.elim
    | cont => obtain ⟨_, _, _, h⟩ := h7; exact h.elim
    | ret u => obtain ⟨_, _, _, _, _, h⟩ := h7; exact h.elim
    | next =>
      obtain ⟨σ7, H7, I7, ρ7, G7, μ7, q7, stp7, m7, sr7⟩ := h7
      refine seg_execs_cons ?_
      refine seg_wrap ?_
      rw [ov _ rfl rfl]
      refine wpAny_mono (q7 σ7 G7 H7 sr7 m7 (pf6.step stp7) { nx := fun σ8 H8 => ∃ ρ8 G8, ρ8[q]? = some (some (out (d.length + 1))) ∧ Iv (d ++ [a]) ρ8 ∧ Stp G7 μ7 H7 G8 mu0 H8 ∧ MOk K G8 mu0 H8 ∧ SR K G8 σ8 ρ8, rt := fun _ _ => False } ⟨fun σ' ρ' G' μ' H' h1 h2 h3 h4 => by obtain ⟨rfl, e2, e3⟩ := h1; exact ⟨ρ', G', e2, e3, h2, h3, h4⟩, fun _ _ _ _ _ h => h.elim, fun _ _ _ _ _ h => h.elim, fun _ _ _ _ _ h => h.elim⟩ _ s7 I7) (fun fl s8 h8 => ?_) fun x s' hx => exc _ x s' hx
      cases fl with
      | brk => obtain ⟨_, _, _, h⟩ := h8; exact h.elim
      | cont => obtain ⟨_, _, _, h⟩ := h8; exact h.elim
      | ret u => obtain ⟨_, _, _, _, _, h⟩ := h8; exact h.elim
      | next =>
        obtain ⟨σ8, H8, I8, ρ8, G8, hq8, iv8, stp8, m8, sr8⟩ := h8
        obtain ⟨y, hy, rep8⟩ := sr8.get q _ hq8
        refine seg_execs_cons ?_
        refine seg_Expr_Yield rfl rfl rfl ?_ hco hi
        rw [ov _ rfl rfl]
        have t9 := (t6.trans stp7).trans stp8
        refine wpAny_mono ((pe_var (X := XR P w K mg base N qual scope f cd A outer s H E pn L o) hq (.inl hnm) hdb hcd).run _ s8 σ8 H8 (fun v H9 => v = y ∧ H9 = H8) I8 ⟨y, hy, rfl, rfl⟩) (fun v s9 ⟨y', H9, I9, r9, ey, eh⟩ => ?_) fun x s' hx => exc _ x s' hx
        subst ey eh
        intro kap hk
        refine ⟨o, y', _, σ8, G8, H9, ho0, by rw [hlen]; omega, r9, has_of hq hnm I9 hy, I9, stp.trans t9, m8, ?_, fun s'' z => hk .none s'' ?_⟩
        · rw [hlen, show d.length + 1 + r.length - r.length = d.length + 1 by omega]; exact rep8
        obtain ⟨o'', h2, hd⟩ := z.at'
        have I' := reroot hL0 hLf hcl I9 hoL z h2 hd
        show Seg _ _ _ _ _ _ _ ((execs [] _).wrap _ _ id id) _ _
        refine seg_execs_nil ?_
        refine seg_again rfl ?_
        refine ih (d ++ [a]) o'' s'' s'' σ8 G8 H9 ρ8 (by rw [hl, List.append_assoc]; rfl) h2 (root_self hL0 (Heap.get?_some_iff.mp h2).2) (z.ns.imp fun m n => ns_at n h2 (root_self hL0 (Heap.get?_some_iff.mp h2).2)) I'.unpinned ?_ (fun b hb => ?_) sr8 m8 (stp.trans t9) (ex.trans t9.ex) iv8 fun _ => ⟨rfl, by rw [List.length_append, List.length_singleton]; exact hq8⟩
        · rw [List.length_append]; rw [List.length_singleton]
          exact T.keep _ _ _ st5 fun b hb ob e => (I'.pin (b, ob) (List.mem_append_right _ (List.mem_append_right _ (mem_pinsAt hb e)))).1
        · obtain ⟨ob, e, _⟩ := T.obj _ _ st5 b hb
          refine FpOk.root (o := o) ⟨(I'.pin (b, ob) (List.mem_append_right _ (List.mem_append_right _ (mem_pinsAt hb e)))).2.1, (hfp b hb).2⟩
end
end K87
end

section
set_option Elab.async false
set_option linter.all false
set_option maxRecDepth 100000
set_option maxHeartbeats 1100000
set_option autoImplicit false
namespace K87
open PySem PySem.Spec PyProof.Rows L2 GenW
section
variable {P : Program} {w : World} {K : PySem.W.Frag} {mg : Str → Option Value} {base : Heap} {N : List Str} {qual : Str} {scope : Scope} {f : Addr} {cd : Value} {A : Around} {outer : List Env} {s : Shared} {H : Hp} {E : XK} {pn : List (Addr × Obj)} {L : Addr} {o : Obj}
theorem root_same {s : Shared} {L : Addr} {o : Obj} (h : s.heap.get? L = some o) (b : Addr) : (rootS s L o).heap.get? b = s.heap.get? b := by
  by_cases e : b = L
  · subst e
    rw [root_self h (Heap.get?_some_iff.mp h).2, h]
  · exact root_other e
/-- the root put in -/
theorem root0 {ip : List (Addr × Obj)} {σ : L2.St} {H1 : Hp} {s1 : Shared} (hL : s.heap.get? L = some o) (I : Inv (gcxOf P w K mg base N qual scope f cd A outer s H E pn) ip σ H1 s1) : Inv (XR P w K mg base N qual scope f cd A outer s H E pn L o) ip σ H1 s1 := by
  have same := root_same hL
  refine ⟨⟨I.ok.mod, I.ok.kind, I.ok.glob, I.ok.blt, ?_, I.ok.inj, I.ok.has, ?_, I.ok.hd, I.ok.frames, I.ok.stk, I.ok.exf, ?_, ?_, I.ok.noex, I.ok.exfs, ?_, I.ok.frf⟩, I.os, I.bare, ?_, I.loc, I.cell, I.free, I.freeC, I.pin, I.hok, I.len⟩
  · show (rootS s L o).heap.objs.size ≤ _
    rw [root_size]; exact I.ok.above
  · intro x c h1 h2
    show (rootS s L o).heap.objs.size ≤ _
    rw [root_size]; exact I.ok.cab x c h1 h2
  · intro b ob hb
    obtain ⟨q1, q2⟩ := I.ok.bs b ob hb
    exact ⟨(same b).trans q1, q2⟩
  · show base.objs.size ≤ (rootS s L o).heap.objs.size
    rw [root_size]; exact I.ok.bsz
  · exact frames_but (fun b ob hb hdb => ⟨ob, (same b).trans hb, hdb⟩) I.ok.funs
  · exact ⟨fun b ob e n hb hx => I.base.keep b ob ((same b).symm.trans e) n hb hx, fun b ob e n hb hx => I.base.slot b ob ((same b).symm.trans e) n hb hx, fun b ob e n hx => I.base.free b ob ((same b).symm.trans e) n hx, fun b ob e hx => I.base.there b ob ((same b).symm.trans e) hx, I.base.tups, I.base.frzs, I.base.tbls⟩
/-- the code of a generator def, from its first waking -/
theorem seg_start {tg iter : Expr} {nm : Str} {q : Nat} {yp0 : Pos} {st1 st2 : Stmt} {yp ypos fpos : Pos} {α : Type} {l : List α} {enc : α → AV} {out : Nat → AV} {Iv : List α → Env' → Prop} {G : Hp} {FX : KF} {σ : L2.St} {ρ0 : Env'} {s₀ : Shared}
    (hL : s.heap.get? L = some o) (hns : ∃ m, s.heap.Ns L m) (hL0 : s₀.heap.get? L = some o) (hLf : L ∈ frs outer) (hcl : ∀ x c, (envOfC qual scope s.heap.objs.size f cd).cells.lookup x = some c → c ≠ L) (hc : A.handled = none) (hq : N[q]? = some nm) (hnm : scope.names.lookup nm = some .local) (hdb : (nm == ("__debug__" : Str)) = false) (hcd : (nm == ("__classdict__" : Str)) = false)
    (hco : scope.isCoroutine = false) (hi : interactive (envOfC qual scope s.heap.objs.size f cd) = false)
    (hit : dI (XR P w K mg base N qual scope f cd A outer s H E pn L o) E F0 tg iter ρ0 mu0 fun xs Pm μ1 => μ1 = mu0 ∧ xs = l.map enc ∧ Pm mu0)
    (hpre : ∀ (o : Obj) (d : List α) (a : α) (r : List α) (ρ : Env'), l = d ++ a :: r → Iv d ρ → dG (XR P w K mg base N qual scope f cd A outer s H E pn L o) E F0 tg (enc a) ρ mu0 fun ρ2 μ2 => dS (XR P w K mg base N qual scope f cd A outer s H E pn L o) E FX st1 ρ2 μ2 { nx := fun ρ3 μ3 => dS (XR P w K mg base N qual scope f cd A outer s H E pn L o) E FX st2 ρ3 μ3 { nx := fun ρ4 μ4 => μ4 = mu0 ∧ ρ4[q]? = some (some (out (d.length + 1))) ∧ Iv (d ++ [a]) ρ4, rt := fun _ _ => False }, rt := fun _ _ => False })
    (hFX : ∀ (G1 H1 : Hp), Stp G mu0 H G1 mu0 H1 → MOk K G1 mu0 H1 → PostF K G1 mu0 H1 FX E) (I : Inv (XR P w K mg base N qual scope f cd A outer s H E pn L o) [] σ H s₀) (sr : SR K G σ ρ0) (m : MOk K G mu0 H) (iv : Iv [] ρ0)
    (hs : ∀ x, foldedSetIterable iter (envOfC qual scope s.heap.objs.size f cd) x = pure x := by intro _; rfl) :
    Seg (model P w) A (RG P w K outer s H G E pn L nm (out l.length) (0 < l.length)) (YG P w K mg base N qual scope f cd A outer s H G E pn L nm l.length out) l.length s₀
      (.func [.For tg iter [st1, st2, .Expr (.Yield (some (.Name nm yp0)) yp) ypos] [] fpos] (envOfC qual scope s.heap.objs.size f cd)) ((model P w).den (.func [.For tg iter [st1, st2, .Expr (.Yield (some (.Name nm yp0)) yp) ypos] [] fpos] (envOfC qual scope s.heap.objs.size f cd))) [] s₀ := by
  refine seg_func ?_
  refine seg_execs_cons ?_
  have leave : ∀ (o : Obj) (n : Nat) (s₀ : Shared) (e : Value) (s' : Shared), s₀.heap.get? L = some o → (∃ m, (rootS s L o).heap.Ns L m) → (XR P w K mg base N qual scope f cd A outer s H E pn L o).xe e s' → Seg (model P w) A (RG P w K outer s H G E pn L nm (out l.length) (0 < l.length)) (YG P w K mg base N qual scope f cd A outer s H G E pn L nm l.length out) n s₀
      (.func [.For tg iter [st1, st2, .Expr (.Yield (some (.Name nm yp0)) yp) ypos] [] fpos] (envOfC qual scope s.heap.objs.size f cd)) ((leaving (envOfC qual scope s.heap.objs.size f cd) e).wrap (fun _ => .raise e) .raise id id) [] s' := fun o n s₀ e s' ho hn hx => by
    refine seg_wrap ?_
    rw [over_func]
    refine wpAny_mono (show wpAny (model P w) (A.deeper (envOfC qual scope s.heap.objs.size f cd)) (leaving (envOfC qual scope s.heap.objs.size f cd) e) (fun _ s'' => CX P w outer H (rootS s L o) E e s'' ∧ ∀ p ∈ pn, s''.heap.get? p.1 = some p.2) (fun _ _ => False) s' from hx) (fun _ s'' q => ?_) fun _ s'' q => q.elim
    exact seg_end (.error e) ⟨o, ho, .inr ⟨e, rfl, hn, q.1, q.2⟩⟩
  have hns' : ∃ m, (rootS s L o).heap.Ns L m := hns.imp fun m n => ns_at n hL (root_self hL (Heap.get?_some_iff.mp hL).2)
  refine seg_For ?_ hs
  rw [over_func]
  refine wpAny_mono (hit σ G H sr m PostF.none (fun J H' => ∃ Pm G', JOk K J G' Pm (l.map enc) ∧ Pm mu0 ∧ Stp G mu0 H G' mu0 H' ∧ MOk K G' mu0 H') (fun J xs Pm G' μ' H' h1 h2 h3 h4 => by obtain ⟨rfl, rfl, e3⟩ := h1; exact ⟨Pm, G', h4, e3, h2, h3⟩) [] s₀ I) (fun v s1 h1 => ?_) fun x s' hx => leave o _ s₀ x s' hL0 hns' hx
  refine wpAny_mono h1 (fun itv s2 ⟨it, fp, tn, J, H2, e, I2, T, st2, f2, Pm, G2, j, hPm, stp, m2⟩ => ?_) fun x s' hx => leave o _ s₀ x s' hL0 hns' hx
  subst e
  intro p
  refine seg_walk ⟨o, hL⟩ hLf hcl hc hq hnm hdb hcd hco hi hpre T j hPm (fun s₀ s1 o σ G1 H1 pins ho I1 stp1 m1 hlast => ?_) leave hFX l [] o s₀ s2 σ G2 H2 ρ0 rfl hL0 (root_self hL (Heap.get?_some_iff.mp hL).2) hns' I2 st2 f2 (sr.ext stp.ex) m2 stp (Ext.refl _) iv fun z => absurd rfl z
  show Seg _ _ _ _ _ _ _ ((execs [] _).wrap _ _ id id) _ _
  refine seg_execs_nil ?_
  exact seg_end (.ok (.ret .none)) ⟨o, ho, .inl ⟨rfl, .inl rfl, G1, H1, hlast, stp1, m1, I1.os, I1.bare, I1.base, I1.hok⟩⟩
end
/-- a generator def's promise over data: the arguments, how many items, which, the errors -/
abbrev GS' := List AV → Nat → (Nat → AV) → KF → Prop
/-- what its call gives -/
structure GMk (P : Program) (w : World) (K : PySem.W.Frag) (mg : Str → Option Value) (base : Heap) (N : List Str) (qual : Str) (scope : Scope) (f : Addr) (cd : Value) (k : Nat) (outer : List Env) (s : Shared) (H G : Hp) (E : XK) (L : Addr) (nm : Str) (n : Nat) (out : Nat → AV) (a g : Nat) (go : Obj) (c : Code) (s' : Shared) : Prop where
  ge : s.heap.objs.size ≤ a
  get : s'.heap.get? a = some go
  gen : ∀ h : Heap, h.get? a = some go → h.IsGen a g
  fresh : s'.gens[g]? = some (.fresh c)
  os : s'.os = s.os
  bare : AllBare s'.gens
  lim : s'.heap.NoLimit
  keep : ∀ b o, s.heap.get? b = some o → s'.heap.get? b = some o
  go : ∀ Aw, Room k Aw → Aw.frames = some outer → Seg (model P w) Aw (RG P w K outer s H G E [(a, go)] L nm (out n) (0 < n)) (YG P w K mg base N qual scope f cd Aw outer s H G E [(a, go)] L nm n out) n (s'.setGen g .running) c ((model P w).den c) [] (s'.setGen g .running)
/-- a generator def -/
structure GenOk (P : Program) (w : World) (K : PySem.W.Frag) (mg : Str → Option Value) (base : Heap) (N : List Str) (qual : Str) (scope : Scope) (cd : Value) (nm : Str) (k : Nat) (f : Addr) (fd : FuncData) (ps : List Str) (gs : GS') : Prop where
  len : ∀ as n out FX, gs as n out FX → as.length = ps.length
  run : ∀ (A : Around) (outer : List Env) (s : Shared) (H : Hp) (args : Args) (us : List Value) (vs : List V) (G : Hp) (as : List AV) (n : Nat) (out : Nat → AV) (FX : KF) (E : XK) (L : Addr) (o : Obj), Room k A → Env0 P w K mg base A outer s H → BindsTo s fd args (ps.zip us) → Vals vs us → Reps K G vs as → MOk K G mu0 H → gs as n out FX →
    (∀ (G1 H1 : Hp), Stp G mu0 H G1 mu0 H1 → MOk K G1 mu0 H1 → PostF K G1 mu0 H1 FX E) → L ∈ frs outer → s.heap.get? L = some o → (∃ m, s.heap.Ns L m) →
    codeAny (model P w) A (.call (.ref f) args) (fun r s' => match r with | .ok (.ret u) => ∃ a g go c, u = .ref a ∧ GMk P w K mg base N qual scope f cd k outer s H G E L nm n out a g go c s' | _ => False) s
theorem gen_ok {P : Program} {w : World} {K : PySem.W.Frag} {mg : Str → Option Value} {base : Heap} {k : Nat} {f : Addr} {name qual : Str} {params : Arguments} {scope : Scope} {dV kV doc pm cdv ct oc : Value} {an od : Option Addr}
    {osl : Array (Option Value)} {N ps : List Str} {gs : GS'} {tg iter : Expr} {nm : Str} {q : Nat} {yp0 : Pos} {st1 st2 : Stmt} {yp ypos fpos : Pos}
    (lk : K.lookup f = some ⟨oc, od, .func (PySem.W.fnOf name qual params [.For tg iter [st1, st2, .Expr (.Yield (some (.Name nm yp0)) yp) ypos] [] fpos] scope dV kV doc pm an cdv ct), osl⟩) (hcd : PySem.W.codeIn K cdv qual = true) (S : GScope N ps scope)
    (hq : N[q]? = some nm) (hnm : scope.names.lookup nm = some .local) (hdb : (nm == ("__debug__" : Str)) = false) (hcdd : (nm == ("__classdict__" : Str)) = false)
    (len : ∀ as n out FX, gs as n out FX → as.length = ps.length)
    (hbody : ∀ (A : Around) (outer : List Env) (s : Shared) (H : Hp) (E : XK) (pn : List (Addr × Obj)) (L : Addr) as n out FX, Room k (A.deeper (envOfC qual scope s.heap.objs.size f cdv)) → gs as n out FX →
      ∃ (α : Type) (l : List α) (enc : α → AV) (Iv : List α → Env' → Prop), l.length = n ∧ Iv [] (startR N as) ∧
        (∀ o, dI (XR P w K mg base N qual scope f cdv A outer s H E pn L o) E F0 tg iter (startR N as) mu0 fun xs Pm μ1 => μ1 = mu0 ∧ xs = l.map enc ∧ Pm mu0) ∧
        ∀ (o : Obj) (d : List α) (a : α) (r : List α) (ρ : Env'), l = d ++ a :: r → Iv d ρ → dG (XR P w K mg base N qual scope f cdv A outer s H E pn L o) E F0 tg (enc a) ρ mu0 fun ρ2 μ2 => dS (XR P w K mg base N qual scope f cdv A outer s H E pn L o) E FX st1 ρ2 μ2 { nx := fun ρ3 μ3 => dS (XR P w K mg base N qual scope f cdv A outer s H E pn L o) E FX st2 ρ3 μ3 { nx := fun ρ4 μ4 => μ4 = mu0 ∧ ρ4[q]? = some (some (out (d.length + 1))) ∧ Iv (d ++ [a]) ρ4, rt := fun _ _ => False }, rt := fun _ _ => False })
    (hi : ∀ n, interactive (envOfC qual scope n f cdv) = false) (hs : ∀ n x, foldedSetIterable iter (envOfC qual scope n f cdv) x = pure x) :
    GenOk P w K mg base N qual scope cdv nm (k + 1) f (PySem.W.fnOf name qual params [.For tg iter [st1, st2, .Expr (.Yield (some (.Name nm yp0)) yp) ypos] [] fpos] scope dV kV doc pm an cdv ct) ps gs := by
  refine ⟨len, fun A outer s H args us vs G as n out FX E L o hr e0 hb r rs m hsp hFX hLf hL hns => ?_⟩
  have hl : vs.length = ps.length := by rw [Reps.len rs]; exact len as n out FX hsp
  (have KX : K.In s.heap := e0.mod.kin.keeps fun b o e => (e0.bs b o e).1); have lim : s.heap.NoLimit := e0.mod.nolimit.keeps fun b o e => (e0.bs b o e).1
  have hkind : ∀ yv ∈ ps.zip us, scope.names.lookup yv.1 = some .local ∨ (scope.names.lookup yv.1 = some .cell ∧ ((cellsFrom (s.heap.objs.size + 1) scope.names []).lookup yv.1).isSome = true) := fun ⟨n, v⟩ hy => by
    rcases (S.par n (List.of_mem_zip hy).1) with q | q
    · exact .inl q
    · exact (.inr ⟨q, PySem.W.cellsFrom_some _ _ _ (.inl q)⟩)
  (refine codeAny_call_generator hr.depth (KX _ _ lk) rfl S.co S.gen rfl (PySem.W.codeRec_of KX hcd) (hb _ _ _ _ ?_)); refine wpAny_newFunctionEnv_cells S.kind hkind fun env he s1 x => ?_
  subst he
  (have lim1 : s1.heap.NoLimit := lim.keeps x.toInCall.keep); refine ⟨lim1, ?_⟩
  (obtain ⟨h1, tk, es1, hk1⟩ := x.done); have os1 : s1.os = s.os := by rw [es1]
  (have gen1 : s1.gens = s.gens := by rw [es1]); have lt1 : s.heap.objs.size < s1.heap.objs.size := x.toInCall.ns.lt
  (have sz1 : s.heap.objs.size ≤ s1.heap.objs.size := Nat.le_of_lt lt1); have kp1 : ∀ b o, s.heap.get? b = some o → s1.heap.get? b = some o := x.toInCall.keep
  have main : ∀ (go : Obj) (nm1 qn : Value) (tk2 : Nat), go.cls = .type "generator" → go.data = .fields #[.int s1.gens.size 0, nm1, qn] → go.slots = #[] → (∀ h : Heap, (h.push go).get? h.objs.size = some go) →
      GMk P w K mg base N qual scope f cdv (k + 1) outer s H G E L nm n out s1.heap.objs.size s1.gens.size go (.func [.For tg iter [st1, st2, .Expr (.Yield (some (.Name nm yp0)) yp) ypos] [] fpos] (envOfC qual scope s.heap.objs.size f cdv)) { s1 with gens := s1.gens.push (.fresh (.func [.For tg iter [st1, st2, .Expr (.Yield (some (.Name nm yp0)) yp) ypos] [] fpos] (envOfC qual scope s.heap.objs.size f cdv))), toks := tk2, heap := s1.heap.push go } := by
    intro go nm1 qn tk2 hgc hgd0 hgs hgp
    have hgen : ∀ h : Heap, h.get? s1.heap.objs.size = some go → h.IsGen s1.heap.objs.size s1.gens.size := fun h e => ⟨go, nm1, qn, e, hgc, hgd0, hgs⟩
    (have hpushed : (s1.heap.push go).get? s1.heap.objs.size = some go := hgp _); refine ⟨sz1, hpushed, hgen, Array.getElem?_push_size .., os1, AllBare.push (by rw [gen1]; exact e0.bare) rfl, lim1.keeps fun b o e => Heap.get?_push_of_some _ e, fun b o e => Heap.get?_push_of_some _ (kp1 b o e), ?_⟩
    intro Aw hrw hfr
    (have e0w : Env0 P w K mg base Aw outer s H := ⟨hfr, e0.mod, e0.bs, e0.bsz, e0.funs, e0.frf, e0.hok, e0.bare⟩); have I1 : Inv (gcxOf P w K mg base N qual scope f cdv Aw outer s H E []) [] (L2.start N vs) H s1 := inv_startG S hrw.hd e0w hl r x
    have young : ∀ b, s1.heap.objs.size ≤ b → H b = none ∧ b ≠ s.heap.objs.size ∧ b ∉ frs outer := fun b hb =>
      ⟨I1.hok.fresh hb, Nat.ne_of_gt (Nat.lt_of_lt_of_le lt1 hb), I1.nofs hb⟩
    have I2 : Inv (gcxOf P w K mg base N qual scope f cdv Aw outer s H E []) [] (L2.start N vs) H (Shared.setGen { s1 with gens := s1.gens.push (.fresh (.func [.For tg iter [st1, st2, .Expr (.Yield (some (.Name nm yp0)) yp) ypos] [] fpos] (envOfC qual scope s.heap.objs.size f cdv))), toks := tk2, heap := s1.heap.push go } s1.gens.size .running) :=
      I1.call' (ch := []) rfl (Un.kept fun b o e => Heap.get?_push_of_some _ e) (I1.hok.kept fun b o e => Heap.get?_push_of_some _ e) (allBare_setGen (AllBare.push (by rw [gen1]; exact e0.bare) rfl) rfl) fun b z => by simp at z
    have I3 := Inv.pinnedG (pn := [(s1.heap.objs.size, go)]) (pins := []) I2 fun p hp => by
      rw [List.append_nil] at hp
      rw [List.mem_singleton.mp hp]
      obtain ⟨y1, y2, y3⟩ := young s1.heap.objs.size (Nat.le_refl _)
      exact ⟨hpushed, y1, y2, y3, fun v q => by rw [hgd0] at q; cases q⟩
    have I4 := root0 hL I3
    obtain ⟨α, l, enc, Iv, hln, iv0, hit, hpre⟩ := hbody Aw outer s H E [(s1.heap.objs.size, go)] L as n out FX (hrw.deeper _) hsp
    subst hln
    have hL0 : (s1.heap.push go).get? L = some o := Heap.get?_push_of_some _ (kp1 L o hL)
    refine seg_start hL hns hL0 hLf (fun yv c e z => ?_) hrw.hd hq hnm hdb hcdd S.co (hi _) (hit o) hpre hFX I4 (start_sr rs) m iv0 (hs _)
    have e' : (cellsFrom (s.heap.objs.size + 1) scope.names []).lookup yv = some c := e
    have := (x.cell yv c e')
    have hge := x.above yv c (PySem.mem_of_lookup e')
    have := Heap.lt_size hL
    rw [z] at hge
    have hge' : s.heap.objs.size ≤ L := Nat.le_of_lt hge
    exact Nat.lt_irrefl _ (Nat.lt_of_lt_of_le this hge')
  exact ⟨_, _, _, _, rfl, main _ _ _ _ rfl rfl rfl fun h => Heap.get?_push_size _ rfl⟩
end K87
end

section
set_option Elab.async false
set_option linter.all false
set_option maxRecDepth 100000
set_option maxHeartbeats 1100000
set_option autoImplicit false
namespace K87
open PySem PySem.Spec PyProof.Rows L2 GenW
theorem Stp.of0 {G H G' H' : Hp} {μ μ' : Mu} (s : Stp G mu0 H G' μ' H') : Stp G μ H G' μ H' :=
  ⟨s.ex, fun a o _ h => s.keep a o rfl h, fun a o h => .inl ⟨o, h⟩, fun a o _ g h => s.adp a o rfl g h⟩
theorem MOk.of0 {K : PySem.W.Frag} {G H G' H' : Hp} {μ μ' : Mu} (m : MOk K G μ H) (s : Stp G mu0 H G' μ' H') (m' : MOk K G' μ' H') : MOk K G' μ H' :=
  ⟨m'.sub, fun p r h => by
    obtain ⟨h1, h2⟩ := m.obj p r h
    obtain ⟨u, hu⟩ := h2.there
    exact ⟨s.adp p u rfl h1 hu, h2.move s.ex fun u z => s.keep p u rfl z⟩⟩
theorem MOk.to0 {K : PySem.W.Frag} {G H : Hp} {μ : Mu} (m : MOk K G μ H) : MOk K G mu0 H := ⟨m.sub, fun p r h => nomatch h⟩
/-- the end of a generator's run, as next() asks -/
def RN (P : Program) (w : World) (K : PySem.W.Frag) (outer : List Env) (s : Shared) (H : Hp) (G : Hp) (E : XK) (L a : Addr) (go : Obj) (nm : Str) (out : AV) (some' : Prop) : GenEnd := fun n s₀ r s1 =>
  ((r = .ok (.ret .none) ∨ r = .ok .next) ∧ (n = 0 ∧ ∃ o, s₀.heap.get? L = some o ∧ ∃ G' H', (some' → ∀ x0, Has nm s.heap.objs.size s₀ x0 → Rep K G' x0 out) ∧ Stp G mu0 H G' mu0 H' ∧ MOk K G' mu0 H' ∧ s1.os = s.os ∧ AllBare s1.gens ∧ Un (frs outer) [] H H' (rootS s L o).heap s1.heap ∧ HOk P w H' s1.heap)) ∨
  ∃ e, r = .error e ∧ (∃ o m, (rootS s L o).heap.get? L = some o ∧ (rootS s L o).heap.Ns L m ∧ CX P w outer H (rootS s L o) E e s1 ∧ s1.heap.get? a = some go)
/-- an error of an own class, no StopIteration -/
def NS (K : PySem.W.Frag) (E : XK) : XK := fun cls d H => E cls d H ∧ PySem.W.subIn K cls (.type "StopIteration") = some false
section
variable {X : Cx} {E : XK} {F : KF} {ρ : Env'} {μ : Mu} {N : DN} {gname x y : Str} {px cp cpos px2 py apos pos : Pos} {e : Expr} {es : List Expr} {i j : Nat} {f : Addr} {fd : FuncData} {ps : List Str} {gs : GS'} {k : Nat} {Ng : List Str} {qualg : Str} {scopeg : Scope} {cdg : Value}
theorem ns_loc {pins : List (Addr × Obj)} {σ : L2.St} {H : Hp} {s : Shared} (I : Inv X pins σ H s) : (∃ m, s.heap.Ns X.env.locals m) ∧ ∃ o, s.heap.get? X.env.locals = some o ∧ ∀ vs, o.data ≠ .fields vs := by
  obtain ⟨m, hn, _⟩ := I.loc
  refine ⟨⟨m, hn⟩, ?_⟩
  obtain ⟨o, es, ep, ho, hd, _⟩ := hn
  exact ⟨o, ho, fun vs z => by rw [z] at hd; cases hd⟩
/-- what a frame without cells holds -/
def Loc1 (X : Cx) (σ : L2.St) (h : Heap) : Prop := ∃ m, h.Ns X.env.locals m ∧ ∀ (i : Nat) (y : Str) (v : V), X.N[i]? = some y → σ[i]? = some (some v) → Vis X.env.scope y → ∃ u, RelV v u ∧ X.env.kindOf y = some .local ∧ m y = some u
theorem Loc1.of {pins : List (Addr × Obj)} {σ : L2.St} {H : Hp} {s : Shared} (hnc : ∀ z c, X.env.cells.lookup z = some c → False) (I : Inv X pins σ H s) : Loc1 X σ s.heap := by
  obtain ⟨m, hn, hl⟩ := I.loc
  refine ⟨m, hn, fun i y v e1 e2 e3 => ?_⟩
  obtain ⟨u, r, l⟩ := hl i y v e1 e2 e3
  rcases l with l | ⟨_, c, hc, _⟩
  · exact ⟨u, r, l⟩
  · exact (hnc y c hc).elim
theorem Loc1.at {σ : L2.St} {h h' : Heap} {o : Obj} (l : Loc1 X σ h) (e : h.get? X.env.locals = some o) (e' : h'.get? X.env.locals = some o) : Loc1 X σ h' := by
  obtain ⟨m, hn, hl⟩ := l
  exact ⟨m, ns_at hn e e', hl⟩
/-- the frame alone is another -/
theorem inv_frame {pins : List (Addr × Obj)} {σ σ' : L2.St} {H : Hp} {s s' : Shared} (hnc : ∀ z c, X.env.cells.lookup z = some c → False) (I : Inv X pins σ H s) (hlen : σ'.length = σ.length) (hk : ∀ b, b ≠ X.env.locals → s'.heap.get? b = s.heap.get? b) (os : s'.os = s.os) (bare : AllBare s'.gens) (l : Loc1 X σ' s'.heap) : Inv X pins σ' H s' := by
  obtain ⟨m, hn, hl⟩ := l
  (have neL : ∀ b o, X.s_0.heap.get? b = some o → b ≠ X.env.locals := fun b o e => Nat.ne_of_lt (Nat.lt_of_lt_of_le (Heap.lt_size e) I.ok.above)); refine ⟨I.ok, os.trans I.os, bare, ⟨fun b o e n hb hx => (hk b (neL b o e)).trans (I.base.keep b o e n hb hx), fun b o e n hb hx => ?_, I.base.free, fun b o e hx => ?_, I.base.tups, I.base.frzs, I.base.tbls⟩, ⟨m, hn, fun i y v e1 e2 e3 => ?_⟩, fun z c e => (hnc z c e).elim, I.free, I.freeC, fun p hp => ?_, fun b u e => ?_, hlen.trans I.len⟩
  · obtain ⟨sl, e1⟩ := (I.base.slot b o e n hb hx)
    exact ⟨sl, (hk b (neL b o e)).trans e1⟩
  · obtain ⟨o', e1⟩ := (I.base.there b o e hx)
    exact ⟨o', (hk b (neL b o e)).trans e1⟩
  · obtain ⟨u, r, k, q⟩ := hl i y v e1 e2 e3
    exact ⟨u, r, .inl ⟨k, q⟩⟩
  · obtain ⟨e, n, ne, nf, d⟩ := (I.pin p hp)
    exact ⟨(hk p.1 ne).trans e, n, ne, nf, d⟩
  · have nL : ∀ c w, H c = some w → c ≠ X.env.locals := fun c w q z => by rw [z, I.free] at q; cases q
    refine (I.hok b u e).stay (fun c v hc q => (hk c ?_).trans q) (fun _ q => q) fun _ _ q => q
    rcases hc with hc | hc
    · rw [hc]; exact nL b u e
    · exact nL c _ hc
/-- a local name written: the frame alone has changed, of the true state and of the root -/
theorem store_loc {pins : List (Addr × Obj)} {σ : L2.St} {H H0 : Hp} {s s1 : Shared} {v : V} {u : Value} {o' : Obj} {M : Model} {A : Around} {EE : Value → Shared → Prop} {Q : Unit → Shared → Prop} (hN : X.N.Nodup) (hi : X.N[i]? = some x) (hx : X.env.scope.names.lookup x = some .local)
    (hnc : ∀ z c, X.env.cells.lookup z = some c → False) (hL1 : ∃ oc, s1.heap.get? X.env.locals = some oc) (I : Inv X pins σ H s) (Iv : Inv X pins σ H0 (rootS s1 X.env.locals o')) (r : RelV v u)
    (h : ∀ s' o'', Inv X pins (σ.set i (some v)) H s' → Inv X pins (σ.set i (some v)) H0 (rootS s1 X.env.locals o'') → s'.heap.get? X.env.locals = some o'' → (∀ vs, o''.data ≠ .fields vs) → (∀ b o, b ≠ X.env.locals → s.heap.get? b = some o → s'.heap.get? b = some o) → s'.gens = s.gens → Q () s') :
    wpAny M A (storeName X.env x u) Q EE s := by
  obtain ⟨m, hn, hl⟩ := Loc1.of hnc I
  obtain ⟨oc, hL1⟩ := hL1
  (have hiσ : i < σ.length := by rw [I.len]; exact (List.getElem?_eq_some_iff.mp hi).1); refine wpAny_storeName_local hx hn (fun h' hn' hs => ?_) (by rw [I.ok.kind]; rfl)
  obtain ⟨o'', es, ep, ho, hd, hr⟩ := id hn'
  have l1 : Loc1 X (σ.set i (some v)) h' := by
    refine ⟨_, hn', fun j y v' e1 e2 e3 => ?_⟩
    by_cases hj : j = i
    · subst hj
      rw [hi] at e1; cases e1
      (rw [List.getElem?_set_self hiσ] at e2); cases e2
      exact ⟨u, r, hx, by simp⟩
    · rw [List.getElem?_set_ne (Ne.symm (hj))] at e2
      obtain ⟨u', r', k, q⟩ := hl j y v' e1 e2 e3
      refine ⟨u', r', k, ?_⟩
      (have : y ≠ x := fun e => hj (nodup_ix hN e1 (e ▸ hi))); simp [this, q]
  have hL2 : (rootS s1 X.env.locals o'').heap.get? X.env.locals = some o'' := root_self hL1 (Heap.get?_some_iff.mp ho).2
  refine h { s with heap := h', toks := s.toks + 1 } o'' (inv_frame hnc I (by simp) (fun b hb => hs.2 b hb) rfl I.bare l1) (inv_frame hnc Iv (by simp) (fun b hb => (root_other hb).trans (root_other hb).symm) rfl Iv.bare (l1.at ho hL2)) ho (fun vs z => by rw [z] at hd; cases hd) (fun b o hb e => (hs.2 b hb).trans e) rfl
end
end K87
end

section
set_option Elab.async false
set_option linter.all false
set_option maxRecDepth 100000
set_option maxHeartbeats 1100000
set_option autoImplicit false
namespace K87
open PySem PySem.Spec PyProof.Rows L2 GenW
/-- what stands between two turns -/
def Btw (X : Cx) (Ng : List Str) (qualg : Str) (scopeg : Scope) (f : Addr) (cdg : Value) (pins : List (Addr × Obj)) (s1 : Shared) (H1 G1 : Hp) (σ1 : L2.St) (i j : Nat) (EN : XK) (a g : Nat) (go : Obj) (nm : Str) (m : Nat) (out : Nat → AV) (n : Nat) (s' : Shared) : Prop :=
  ∃ (d : Nat) (gst : GenState) (σ' : L2.St) (H' : Hp) (o' : Obj), d + n = m ∧ s'.heap.get? X.env.locals = some o' ∧ (∀ vs, o'.data ≠ .fields vs) ∧ s'.gens[g]? = some gst ∧
    gst.Goes (model X.prog X.w) X.A.in1 (RN X.prog X.w X.K X.stack s1 H1 G1 EN X.env.locals a go nm (out m) (0 < m)) (YG X.prog X.w X.K X.mg X.base Ng qualg scopeg f cdg X.A.in1 X.stack s1 H1 G1 EN [(a, go)] X.env.locals nm m out) n (.send .none) (s'.setGen g .running) ∧
    s'.heap.get? a = some go ∧ Inv X pins σ' H' s' ∧ Inv X pins σ' H1 (rootS s1 X.env.locals o') ∧ ((d = 0 ∧ σ' = σ1) ∨ (0 < d ∧ ∃ x, σ' = (σ1.set i (some x)).set j (some x) ∧ Has nm s1.heap.objs.size s' x))
theorem yg_mono {P : Program} {w : World} {K : PySem.W.Frag} {mg : Str → Option Value} {base : Heap} {N : List Str} {qual : Str} {scope : Scope} {f : Addr} {cd : Value} {A : Around} {outer : List Env} {s : Shared} {H G : Hp} {E : XK} {pn : List (Addr × Obj)} {L : Addr} {nm : Str} {m : Nat} {out : Nat → AV}
    {n : Nat} {s₀ : Shared} {v : Value} {s1 : Shared} {kap kap' : Resume → Shared → Prop} (hk : ∀ r s', kap r s' → kap' r s') (h : YG P w K mg base N qual scope f cd A outer s H G E pn L nm m out n s₀ v s1 kap) : YG P w K mg base N qual scope f cd A outer s H G E pn L nm m out n s₀ v s1 kap' := by
  obtain ⟨o, x, ip, σ, G', H', h1, h2, h3, h4, h5, h6, h7, h8, h9⟩ := h
  exact ⟨o, x, ip, σ, G', H', h1, h2, h3, h4, h5, h6, h7, h8, fun s' z => hk _ _ (h9 s' z)⟩
theorem set4 {α : Type} (l : List α) (i j : Nat) (a b : α) : (((l.set i a).set j a).set i b).set j b = (l.set i b).set j b := by
  apply List.ext_getElem?
  intro n
  simp only [List.getElem?_set, List.length_set]
  by_cases h1 : j = n <;> by_cases h2 : i = n <;> simp [h1, h2]
theorem gsz {M : Model} {A : Around} {E : Value → Shared → Prop} {s : Shared} {it : Value} {Q : Option Value → Shared → Prop} {g : Nat} (hg : g < s.gens.size) (h : wpAny M A (pyNext it) (fun r s' => g + 1 ≤ s'.gens.size → Q r s') E s) : wpAny M A (pyNext it) Q E s := wpAny_gsz (n := g + 1) hg (wpAny_mono h (fun _ _ q => q) fun _ _ q _ => q)
section
variable {X : Cx} {E : XK} {F : KF} {ρ : Env'} {μ : Mu} {N : DN} {gname x y : Str} {px cp cpos px2 py apos pos : Pos} {e : Expr} {es : List Expr} {i j : Nat} {f : Addr} {fd : FuncData} {ps : List Str} {gs : GS'} {k : Nat} {Ng : List Str} {qualg : Str} {scopeg : Scope} {cdg : Value} {nm : Str}
/-- for x in a generator: y = x -/
theorem s_forGen (GO : GenOk X.prog X.w X.K X.mg X.base Ng qualg scopeg cdg nm k f fd ps gs) (hr : Room (k + 1) X.A) (hc : X.calm = true) (hp : PassesOwn (model X.prog X.w) X.A X.env X.xe) (hx : Passes (CX X.prog X.w) X (NS X.K E))
    (hstk : X.stack = X.env :: X.outer) (hfr : X.env.frame = some X.env.locals) (hnc : ∀ z c, X.env.cells.lookup z = some c → False)
    (hg : Gl X gname) (hm : X.mg gname = some (.ref f)) (kp : PySem.W.keepIn X.K (.ref f) = true) (b : Binds X.K fd ps []) (hN : X.N.Nodup) (hi : X.N[i]? = some x) (hj : X.N[j]? = some y) (hxl : X.env.scope.names.lookup x = some .local) (hyl : X.env.scope.names.lookup y = some .local)
    (h : dA X E F (e :: es) ρ μ fun as μ1 => ∃ n out FX, gs as n out FX ∧ (∀ C fl a μ', FX C fl a μ' → F C fl a μ1 ∧ PySem.W.subIn X.K (.ref C) (.type "StopIteration") = some false) ∧ (n = 0 → N.nx ρ μ1) ∧ (0 < n → N.nx ((ρ.set i (some (out n))).set j (some (out n))) μ1))
    (hdb : (gname == ("__debug__" : Str)) = false := by decide) (he : starEach (e :: es) X.env = (false, eval e X.env) :: starEach es X.env := by rfl) (hpl : (backTo cpos (starEach es X.env)).any (·.1) = false := by rfl)
    (hs : ∀ z, foldedSetIterable (.Call (.Name gname cp) (e :: es) [] cpos) X.env z = pure z := by intro _; rfl) (hsw : swapsWith (.Name x px2) (some (.Name y py)) apos.line X.env = pure false := by rfl)
    (hdx : (x == ("__debug__" : Str)) = false := by decide) :
    dS X E F (.For (.Name x px) (.Call (.Name gname cp) (e :: es) [] cpos) [.Assign [.Name y py] (.Name x px2) apos] [] pos) ρ μ N := fun σ G H sr m pf D po pins s I => by
  refine wpAny_For ?_ hs
  (refine wpAny_Call_Name_kw (ld_glob I hg hm ?_ hdb)); refine PySem.W.callWith_K (h₀ := X.base) I.ok.mod.kin kp (thn (h σ G H sr m pf (fun vs H1 => ∃ G1 μ1 as n out FX, Reps X.K G1 vs as ∧ Stp G μ H G1 μ1 H1 ∧ MOk X.K G1 μ1 H1 ∧ gs as n out FX ∧ (∀ C fl a μ', FX C fl a μ' → F C fl a μ1 ∧ PySem.W.subIn X.K (.ref C) (.type "StopIteration") = some false) ∧ (n = 0 → N.nx ρ μ1) ∧ (0 < n → N.nx ((ρ.set i (some (out n))).set j (some (out n))) μ1))
    (fun vs as G1 μ1 H1 ⟨n, out, FX, h1, h2, h3, h4⟩ h5 h6 h7 => ⟨G1, μ1, as, n, out, FX, h7, h5, h6, h1, h2, h3, h4⟩) cpos pins s I) fun us s1 ⟨vs, H1, I1, rv, G1, μ1, as, n, out, FX, rs, st, m1, hgs, hFXF, hn0, hnp⟩ => ⟨I1.kIn, ?_⟩) he hpl
  have hl : us.length = ps.length := by rw [← rv.length, Reps.len rs]; exact GO.len as n out FX hgs
  obtain ⟨hns, o1, hL1, hd1⟩ := ns_loc I1
  have hLf : X.env.locals ∈ frs X.stack := by
    rw [hstk]
    show X.env.locals ∈ (X.env :: X.outer).filterMap (·.frame)
    rw [List.filterMap_cons, hfr]
    exact List.mem_cons_self ..
  have hb' : BindsTo s1 fd ⟨us, []⟩ (ps.zip us) := by
    have := b s1 us I1.kIn (by simpa using hl)
    simpa using this
  have pf1 : PostF X.K G1 μ1 H1 F E := pf.step st
  have hFX : ∀ (G' H' : Hp), Stp G1 mu0 H1 G' mu0 H' → MOk X.K G' mu0 H' → PostF X.K G' mu0 H' FX (NS X.K E) := fun G' H' st' m' C fl a v d G2 μ2 H2 hF st2 m2 r2 hd2 => by
    obtain ⟨hf, hsub⟩ := hFXF C fl a μ2 hF
    have st3 := st'.trans st2
    exact ⟨pf1 C fl a v d G2 μ1 H2 hf st3.of0 (m1.of0 st3 m2) r2 hd2, hsub⟩
  refine wpAny_call (codeAny_mono (GO.run X.A X.stack s1 H1 ⟨us, []⟩ us vs G1 as n out FX (NS X.K E) X.env.locals o1 (hr.mono (Nat.le_succ k)) I1.env0 hb' rv rs m1.to0 hgs hFX hLf hL1 hns) fun r s2 hq => ?_)
  cases r with
  | error e => exact hq.elim
  | ok fl =>
    cases fl with
    | next => exact hq.elim
    | brk => exact hq.elim
    | cont => exact hq.elim
    | ret u =>
      obtain ⟨a, g, go, c, rfl, MK⟩ := hq
      refine wpAny_pyIter_gen (MK.gen _ MK.get) ?_
      have same := root_same hL1
      have I2 : Inv X pins σ H1 s2 := I1.call' (ch := []) MK.os (Un.kept MK.keep) (I1.hok.kept MK.keep) MK.bare fun b z => by simp at z
      have Iv2 : Inv X pins σ H1 (rootS s1 X.env.locals o1) := I1.call' (ch := []) rfl (Un.kept fun b o e => (same b).trans e) (I1.hok.kept fun b o e => (same b).trans e) I1.bare fun b z => by simp at z
      have goes0 : (GenState.fresh c).Goes (model X.prog X.w) X.A.in1 (RN X.prog X.w X.K X.stack s1 H1 G1 (NS X.K E) X.env.locals a go nm (out n) (0 < n)) (YG X.prog X.w X.K X.mg X.base Ng qualg scopeg f cdg X.A.in1 X.stack s1 H1 G1 (NS X.K E) [(a, go)] X.env.locals nm n out) n (.send .none) (s2.setGen g .running) := by
        refine ⟨rfl, ?_⟩
        refine seg_imp (R := RG X.prog X.w X.K X.stack s1 H1 G1 (NS X.K E) [(a, go)] X.env.locals nm (out n) (0 < n)) (R' := RN X.prog X.w X.K X.stack s1 H1 G1 (NS X.K E) X.env.locals a go nm (out n) (0 < n)) (Y := YG X.prog X.w X.K X.mg X.base Ng qualg scopeg f cdg X.A.in1 X.stack s1 H1 G1 (NS X.K E) [(a, go)] X.env.locals nm n out) (Y' := YG X.prog X.w X.K X.mg X.base Ng qualg scopeg f cdg X.A.in1 X.stack s1 H1 G1 (NS X.K E) [(a, go)] X.env.locals nm n out) (fun n s₀ r s hR => ?_) (fun n s₀ v s kap kap' hk hY => yg_mono hk hY) n (MK.go X.A.in1 hr.in1 (show X.A.frames = some X.stack from I.ok.frames))
        obtain ⟨o, ho, hR⟩ := hR
        rcases hR with ⟨h1, h2, G', H', h3⟩ | ⟨e, h1, ⟨mm, h2⟩, h3, h4⟩
        · exact .inl ⟨h2, h1, o, ho, G', H', h3⟩
        · obtain ⟨oo, es, ep, hoo, _⟩ := id h2
          have hLo : (rootS s1 X.env.locals o).heap.get? X.env.locals = some o := by
            obtain ⟨oq, hq', _⟩ : ∃ oq, s₀.heap.get? X.env.locals = some oq ∧ True := ⟨o, ho, trivial⟩
            exact root_self hL1 (Heap.get?_some_iff.mp ho).2
          exact .inr ⟨e, h1, o, mm, hLo, h2, h3, h4 (a, go) (List.mem_singleton.mpr rfl)⟩
      have hLlt : X.env.locals < s1.heap.objs.size := Heap.lt_size hL1
      refine codeAny_forLoop_any (Btw X Ng qualg scopeg f cdg pins s1 H1 G1 σ i j (NS X.K E) a g go nm n out) ?_ n
        ⟨0, .fresh c, σ, H1, o1, Nat.zero_add _, MK.keep _ _ hL1, hd1, MK.fresh, goes0, MK.get, I2, Iv2, .inl ⟨rfl, rfl⟩⟩
      rintro m s3 ⟨d, gst, σ3, H3, o3, hdm, hL3, hd3, hgs3, hgo3, ha3, I3, Iv3, hst3⟩
      refine wpAny_passesOwn hp ?_
      have hgl : g < s3.gens.size := (Array.getElem?_eq_some_iff.mp hgs3).1
      refine gsz hgl ?_
      refine next_genG (A := X.A) hr.hd (I3.ok.mod.nolimit.keeps I3.bk) (by have := hr.dp; omega) (MK.gen _ ha3) hgs3 hgo3 (fun v sY gs' hbare hY => ?_) (fun sP hP h' hk => ?_) fun e sE hE => ?_
      · obtain ⟨o, x0, ip, σg, G', H', ho, hlt, hrel, hhas, Ig, stp, m', rep, hk⟩ := hY
        have ho3 : o = o3 := by
          have q : s3.heap.get? X.env.locals = some o := ho
          rw [hL3] at q; cases q; rfl
        subst ho3
        have I4 : Inv X pins σ3 H' sY := Iv3.call' (ch := []) Ig.os Ig.base Ig.hok Ig.bare fun b z => by simp at z
        obtain ⟨hns4, o4, hL4, hd4⟩ := ns_loc I4
        cases m with
        | zero => exact (hk sY ⟨rfl, I4.bare, fun _ _ _ h => h, ⟨o4, hL4, hd4⟩, hns4⟩).elim
        | succ m =>
          intro hsz
          have hszY : g < sY.gens.size := by
            have q : (sY.setGen g gs').gens.size = sY.gens.size := setGen_size _ _ _
            have h' : g + 1 ≤ (sY.setGen g gs').gens.size := hsz
            omega
          have haY := (Ig.pin (a, go) (List.mem_append_left _ (List.mem_singleton.mpr rfl))).1
          have I5 : Inv X pins σ3 H' (sY.setGen g gs') := Iv3.call' (ch := []) Ig.os Ig.base Ig.hok (allBare_setGen Ig.bare hbare) fun b z => by simp at z
          refine wpAny_pure ?_
          refine wpAny_passesOwn hp (wpAny_assign_Name ?_)
          refine store_loc hN hi hxl hnc ⟨o1, hL1⟩ I5 Iv3 hrel fun s7 o7 I7 Iv7 hL7 hd7 hk7 hg7 => ?_
          have hiσ : i < σ3.length := by rw [I3.len]; exact (List.getElem?_eq_some_iff.mp hi).1
          obtain ⟨m7, hn7, hl7⟩ := Loc1.of hnc I7
          obtain ⟨u7, ru7, hk7', hm7⟩ := hl7 i x x0 hi (by rw [List.getElem?_set_self hiσ]) (.inl hxl)
          refine wpAny_passesOwn hp (wpAny_execs_cons (wpAny_Assign_Name (wpAny_Name (wpAny_loadName_local (by rw [I7.ok.kind]) hk7' hn7 hm7 ?_) hdx) hsw))
          refine store_loc hN hj hyl hnc ⟨o1, hL1⟩ I7 Iv7 ru7 fun s8 o8 I8 Iv8 hL8 hd8 hk8 hg8 => ?_
          refine wpAny_execs_nil ⟨m, Nat.lt_succ_self m, d + 1, gs', _, H', o8, by omega, hL8, hd8, ?_, ?_, ?_, I8, Iv8, .inr ⟨Nat.succ_pos d, x0, ?_, ?_⟩⟩
          · rw [hg8, hg7]; exact setGen_at hszY
          · obtain ⟨hns8, _⟩ := ns_loc I8
            exact hk (s8.setGen g .running) ⟨I8.os.trans I4.os.symm, allBare_setGen I8.bare rfl, fun b o hb e => hk8 b o hb (hk7 b o hb e), ⟨o8, hL8, hd8⟩, hns8⟩
          · have hne : a ≠ X.env.locals := Nat.ne_of_gt (Nat.lt_of_lt_of_le hLlt MK.ge)
            exact hk8 a go hne (hk7 a go hne haY)
          · rcases hst3 with ⟨_, rfl⟩ | ⟨_, x', rfl, _⟩
            · rfl
            · exact set4 _ _ _ _ _
          · obtain ⟨mh, uh, ⟨oh, es, ep, h1, h2⟩, h3⟩ := hhas
            have hne : s1.heap.objs.size ≠ X.env.locals := Nat.ne_of_gt hLlt
            exact ⟨mh, uh, ⟨oh, es, ep, hk8 _ _ hne (hk7 _ _ hne h1), h2⟩, h3⟩
      · intro hsz
        obtain ⟨hm0, o, ho, G', H', hlast, stp, m', os, bare, un, hok⟩ := hP
        subst hm0
        have ho3 : o = o3 := by
          have q : s3.heap.get? X.env.locals = some o := ho
          rw [hL3] at q; cases q; rfl
        subst ho3
        have hdn : d = n := hdm
        refine wpAny_passesOwn hp (wpAny_execs_nil ⟨σ3, H', Iv3.call' (ch := []) os (un.trans (Un.kept hk)) (hok.kept hk) (allBare_setGen bare rfl) fun b z => by simp at z, ?_⟩)
        rcases hst3 with ⟨hd0, rfl⟩ | ⟨hd0, x0, rfl, hx0⟩
        · exact po.nx _ ρ G' μ1 H' (hn0 (by omega)) (st.trans stp.of0) (m1.of0 stp m') ((sr.ext st.ex).ext stp.ex)
        · have r0 := hlast (by omega) x0 hx0
          exact po.nx _ _ G' μ1 H' (hnp (by omega)) (st.trans stp.of0) (m1.of0 stp m') ((((sr.ext st.ex).ext stp.ex).set i r0).set j r0)
      · obtain ⟨o, mm, hLo, hnsm, cx, hga⟩ := hE
        have hnoL : ∀ b ob, X.base.get? b = some ob → b ≠ X.env.locals := fun b ob eb z => by
          have h1 := Heap.lt_size eb
          (have h2 := Nat.le_trans I1.ok.bsz I1.ok.above); rw [z] at h1
          exact (absurd (Nat.lt_of_lt_of_le h1 h2) (Nat.lt_irrefl _))
        have kin : X.K.In sE.heap := by
          obtain ⟨a, B, H', cls, d, _, fl, _, ub, _⟩ := id cx
          (refine I1.ok.mod.kin.keeps fun b ob eb => fl.1 b ob (ub.keep b ob ((root_other (hnoL b ob eb)).trans (I1.bs b ob eb).1) (I1.bs b ob eb).2 fun hm => ?_)); rcases List.mem_cons.mp (I1.stkSub b hm) with z | z
          · exact hnoL b ob eb z
          · exact I1.ok.nofr eb z
        refine ⟨MK.gen _ hga, notStop_of (fun cls d H h => h.2) kin cx, ?_⟩
        have I9 : Inv X pins (List.replicate σ.length none) H1 (rootS s1 X.env.locals o) := inv_frame hnc I1 (by simp) (fun b hb => root_other hb) rfl I1.bare ⟨mm, hnsm, fun i' y' v' e1 e2 e3 => by
          rw [List.getElem?_replicate] at e2
          split at e2 <;> cases e2⟩
        refine hx pins _ H1 (rootS s1 X.env.locals o) e _ I9 ?_
        (obtain ⟨a, B, H', cls, d, z1, fl, z2, ub, z3, z4, z5, z6⟩ := cx); exact ⟨a, B, H', cls, d, z1, fl, z2, ub, z3, z4, allBare_setGen z5 rfl, z6⟩
end
end K87
end

section
set_option Elab.async false
set_option linter.all false
set_option maxRecDepth 100000
set_option maxHeartbeats 1100000
set_option autoImplicit false
/-! Own exception classes straight over a builtin one, whose __init__ stores one field. -/
namespace K87
open PySem PySem.Spec PyProof.Rows L2 PySem.W PySem.Calls PySem.HandSPX
/-- the text of __init__ -/
def oeArgs (f : Str) (p1 p2 : Pos) : Arguments := ⟨[], [⟨"self", none, p1⟩, ⟨f, none, p2⟩], none, [], [], none, []⟩
def oeBody (f : Str) (q1 q2 q3 q4 : Pos) : List Stmt := [.Assign [.Attribute (.Name "self" q1) f q2] (.Name f q3) q4]
def oeScope (f : Str) : Scope := { kind := .function, names := [("self", .local), (f, .local)], isGenerator := false, isCoroutine := false, more := [] }
/-- the class at C, named x, its field f, its base's chain tl -/
structure OEc (K : Frag) (mg : Str → Option Value) (x f q : Str) (newId : String) (tl : List Value) (C fI : Addr) : Prop where
  gC : mg x = some (.ref C)
  cls : ∃ nm qn N bs sn sub ab col dd k0 k1 k2 k3 k5, K.lookup C = some (excClassObj nm qn C N bs tl true sn sub ab col dd k0 k1 k2 k3 k5 newId)
  sa : (findIn K (.ref C) "__setattr__") = some (some (.builtin "object.__setattr__"))
  noN : findIn K (.ref C) f = some none
  iC : (findIn K (.ref C) "__init__") = some (some (.ref fI))
  tC : (typeIn K (.ref fI)) = some (.type "function")
  kC : keepIn K (.ref C) = true
  exC : (subIn K (.ref C) (.type "BaseException")) = some true
  tyC : (typeIn K (.ref C)) = some (.type "type")
  fn : ∃ (oc : Value) (od : Option Addr) (doc : Value) (pm : Value) (an : Option Addr) (cdv ct : Value) (osl : Array (Option Value)) (p1 p2 q1 q2 q3 q4 : Pos),
    K.lookup fI = some ⟨oc, od, .func (fnOf "__init__" q (oeArgs f p1 p2) (oeBody f q1 q2 q3 q4) (oeScope f) .none .none doc pm an cdv ct), osl⟩ ∧ codeIn K cdv q = true
/-- how the two arguments stand in the frame -/
structure OEn (f : Str) (q : Str) : Prop where
  bind : ∀ (p1 p2 q1 q2 q3 q4 : Pos) (doc pm : Value) (an : Option Addr) (cdv ct u v : Value), bindArgs (fnOf "__init__" q (oeArgs f p1 p2) (oeBody f q1 q2 q3 q4) (oeScope f) .none .none doc pm an cdv ct) ⟨[u, v], []⟩ = pure ([(("self" : Str), u), (f, v)] : List (Str × Value))
  kinds : ∀ u v : Value, (([(("self" : Str), u), (f, v)] : List (Str × Value)).all fun y => (oeScope f).names.lookup y.1 == some .local || (oeScope f).names.lookup y.1 == some .cell) = true
  self : ∀ (N0 fI : Addr) (cdv u v : Value), bindL (envOfC q (oeScope f) N0 fI cdv).kindOf ([(("self" : Str), u), (f, v)] : List (Str × Value)) (fun _ => none) "self" = some u
  fld : ∀ (N0 fI : Addr) (cdv u v : Value), bindL (envOfC q (oeScope f) N0 fI cdv).kindOf ([(("self" : Str), u), (f, v)] : List (Str × Value)) (fun _ => none) f = some v
  kS : ∀ (N0 fI : Addr) (cdv : Value), (envOfC q (oeScope f) N0 fI cdv).kindOf "self" = some .local
  kF : ∀ (N0 fI : Addr) (cdv : Value), (envOfC q (oeScope f) N0 fI cdv).kindOf f = some .local
  nd : (f == ("__debug__" : Str)) = false
section
open Builtin.ObjectAttr Builtin
variable {prog : Program} {w : World} {A : Around} {E : Value → Shared → Prop} {R : Result → Shared → Prop} {hp : Heap} {g : Array GenState} {d : Drawn} {t : Nat} {os : OsState} {B newId initId : String} {tl : List Value}
theorem oe_osa (SF : StoreFacts B tl "object.__setattr__" "object") {K : Frag} {name : Str} {tk : Tok} {v : Value} {x C : Addr} {fv : Array Value} {cd : ClassData} (X : K.In hp) (hx : hp.get? x = some { cls := .ref C, data := .fields fv }) (hcd : clsIn K C = some cd) (hm : cd.mro = .ref C :: tl) (hh : cd.hasDict = true) (ha : findIn K (.ref C) name = some none) (hq : ∀ h' tk' dx, (∀ b o, b ≠ x → hp.get? b = some o → h'.get? b = some o) → hp.objs.size ≤ dx → dx ≠ x → h'.get? x = some { cls := .ref C, dict := some dx, data := .fields fv } → h'.Ns1 dx (fun y => if y = name then some v else none) → R (.ok (.ret .none)) ⟨h', g, d, tk', os⟩) : codeAny (model prog w) A (.call (.builtin "object.__setattr__") ⟨[.ref x, .str name tk, v], []⟩) R ⟨hp, g, d, t, os⟩ := by
  have J : InstAt hp x { cls := .ref C, data := .fields fv } C none := ⟨hx, rfl, rfl, trivial⟩
  have S0 := F.store_object
  have hmro : Looks (model prog w) hp (mroOf (.ref C)) cd.mro := (looks_clsIn X hcd).andThen .now
  have hC : Looks (model prog w) hp (classData C) cd := looks_clsIn X hcd
  have hobj : cd.mro.contains (.type "object") = true := by rw [hm, List.contains_cons, SF.hasOwner, Bool.or_true]
  have hne : cd.mro.isEmpty = false := by rw [hm]; rfl
  have hsub : Looks (model prog w) hp (isInstance (.ref x) (.type "object")) true := J.type.andThen (looks_mroIn X (by unfold mroIn; rw [hcd, Option.bind_some, if_neg (by rw [hne]; decide), hobj]))
  have nx : x ≠ hp.objs.size := Nat.ne_of_lt (Heap.lt_size hx)
  have noT : Looks (model prog w) hp (storeTaker? none) none := .now
  refine codeAny_call_builtin S0.slot.plain S0.entry (@check_slot (model prog w) _ _ ⟨hp, g, d, t, os⟩ "object.__setattr__" "object" "__setattr__" (.ref x) [.str name tk, v] [] _ S0.kind S0.split hsub (S0.args (.ref x) (.str name tk) v) ?_)
  rw [osa_eq, refuse_eq]
  refine wpAny_bind (wpAny_bind (J.type.at (wpAny_bind (hmro.at ?_))))
  rw [hm, refuseLoop_ref, SF.passes]
  refine wpAny_pure (wpAny_bind (J.type.at (wpAny_bind ((looks_findIn X ha).at (wpAny_bind (noT.at ?_))))))
  (show wpAny _ _ (storeInOwnDict (.ref x) (.ref C) (.str name tk) name v false) _ _ _); obtain ⟨z1, z2, z3, z4, z5, z6, z7, z8, z9, z10, z11⟩ := cd
  dsimp only at hh
  (subst hh); unfold storeInOwnDict ownDictForStores
  repeat (first | with_reducible refine store_in_new ?_ ?_ | with_reducible refine wpAny_loadPart_at hx ?_ | with_reducible refine hC.at ?_ | wp_step)
  · exact ⟨_, #[], _, (Heap.get?_update_ne _ _ _ _ nx.symm).trans (Heap.get?_push_at rfl rfl), rfl, fun e he => absurd he (by simp), fun _ => rfl⟩
  · intro h2 tk2 hn2 hs2
    have kx : (hp.push { cls := .type "dict", data := .dict #[] }).get? x = some { cls := .ref C, data := .fields fv } := Heap.get?_push_of_some _ hx
    exact hq h2 tk2 hp.objs.size (fun b o hb ho => (hs2.2 b (Nat.ne_of_lt (Heap.lt_size ho))).trans ((Heap.get?_update_ne _ _ _ _ hb).trans (Heap.get?_push_of_some _ ho))) (Nat.le_refl _) nx.symm
      ((hs2.2 x nx).trans (Heap.get?_update_self _ kx rfl)) hn2
end
/-- a made one -/
structure OEm (f : Str) (h h' : Heap) (e C d : Addr) (v : Value) : Prop where
  keep : (∀ b o, h.get? b = some o → h'.get? b = some o)
  new : h.objs.size ≤ e
  obj : (∃ oe vs, h'.get? e = some oe ∧ oe.cls = .ref C ∧ oe.dict = some d ∧ oe.data = .fields vs ∧ vs[1]? = some .none)
  dbig : h.objs.size ≤ d
  dne : d ≠ e
  ns : h'.Ns1 d (fun y => if y = f then some v else none)
section
variable {prog : Program} {w : World} {A : Around} {E : Value → Shared → Prop} {R : Result → Shared → Prop} {s : Shared} {K : Frag} {mg : Str → Option Value} {C fI : Addr} {x f q : Str} {B newId initId : String} {tl : List Value}
theorem oe_init (SF : StoreFacts B tl "object.__setattr__" "object") (T : OEc K mg x f q newId tl C fI) (n : OEn f q) {e t0 : Addr} {v : Value} (X : K.In s.heap) (hlim : s.heap.NoLimit) (he : s.heap.get? e = some (excO C t0)) (hroom : A.depth < recursionLimit)
    (hq : ∀ h' tk dx, (∀ b o, b ≠ e → s.heap.get? b = some o → h'.get? b = some o) → h'.get? e = some { cls := .ref C, dict := some dx, data := .fields #[.ref t0, .none, .none, .none, .bool false, .none] } → s.heap.objs.size ≤ dx → dx ≠ e → h'.Ns1 dx (fun y => if y = f then some v else none) → R (.ok (.ret .none)) { s with heap := h', toks := tk }) :
    codeAny (model prog w) A (.call (.ref fI) ⟨[.ref e, v], []⟩) R s := by
  (obtain ⟨oc, od, doc, pm, an, cdv, ct, osl, p1, p2, q1, q2, q3, q4, ho, hcd⟩ := T.fn); obtain ⟨nm, qn, N, bs, sn, sub, ab, col, dd, k0, k1, k2, k3, k5, hC⟩ := T.cls
  have hcl : clsIn K C = some { name := nm, bases := bs, mro := .ref C :: tl, ns := N, qualname := qn, hasDict := true, slotNames := sn, subclasses := sub, abstract := ab, collection := col, hasDel := false } := by unfold clsIn; rw [hC] <;> rfl
  refine Att.call_fn (binds := [("self", .ref e), (f, v)]) X hlim ho hcd hroom (BindsTo.of_eq (n.bind ..)) (n.kinds ..) (fun s1 IC => ?_) rfl rfl rfl
  obtain ⟨h1, tk1, rfl⟩ := IC.toInCall.same
  have k : ∀ b o, s.heap.get? b = some o → h1.get? b = some o := IC.toInCall.keep
  have hn := IC.toInCall.ns
  have X1 : K.In h1 := X.keeps k
  have he1 := k _ _ he
  (show wpAny _ _ (execs _ _) _ _ _); refine wpAny_execs_cons (plainObj_wpAny_Assign_Attribute ?_)
  refine wpAny_Name (wpAny_loadName_local rfl (n.kF ..) hn (n.fld ..) ?_) n.nd
  refine wpAny_Name (wpAny_loadName_local rfl (n.kS ..) hn (n.self ..) ?_) (by decide)
  refine set_plain X1 (ox := excO C t0) (od := none) ⟨he1, rfl, rfl, trivial⟩ T.sa ?_
  refine oe_osa SF X1 he1 hcl rfl rfl T.noN (fun h3 tk3 dx k3 dn dne he3 hn3 => ?_)
  (show wpAny _ _ (execs _ _) _ _ _); have z : s.heap.objs.size < h1.objs.size := hn.lt
  exact wpAny_execs_nil (hq h3 tk3 dx (fun b o hb e => k3 b o hb (k b o e)) he3 (Nat.le_of_lt (Nat.lt_of_lt_of_le z dn)) dne hn3)
theorem oe_made (BF : ExcBaseFacts B newId initId tl) (SF : StoreFacts B tl "object.__setattr__" "object") (T : OEc K mg x f q newId tl C fI) (n : OEn f q) {v : Value} (X : K.In s.heap) (hlim : s.heap.NoLimit) (hroom : A.depth + 1 < recursionLimit) (hq : ∀ h' tk e d, OEm f s.heap h' e C d v → R (.ok (.ret (.ref e))) { s with heap := h', toks := tk }) : codeAny (model prog w) A (.call (.ref C) ⟨[v], []⟩) R s := by
  obtain ⟨nm, qn, N, bs, sn, sub, ab, col, dd, k0, k1, k2, k3, k5, hC⟩ := T.cls
  (obtain ⟨hp, g, dr, tk, os⟩ := s); have k : ∀ b o, hp.get? b = some o → ((hp.push (kdv_tup [v])).push (excO C hp.objs.size)).get? b = some o := fun b o e => Heap.get?_push_of_some _ (Heap.get?_push_of_some _ e)
  (have hget : ((hp.push (kdv_tup [v])).push (excO C hp.objs.size)).get? (hp.objs.size + 1) = some (excO C hp.objs.size) := by heap_get); have one : [v].length ≤ sizeLine := by rw [sizeLine_eq]; exact (by decide : 1 ≤ 16777216)
  refine call_own BF (fun _ => rfl) (X _ _ hC) (looks_findIn X T.iC) (fun self => bind_fn X self T.tC) one ?_
  (refine oe_init (s := ⟨(hp.push (kdv_tup [v])).push (excO C hp.objs.size), g, dr, tk, os⟩) SF T n (X.keeps k) (hlim.keeps k) hget hroom fun h2 tk2 dx k2 hx dn dne hns => ?_); have z : hp.objs.size + 1 + 1 ≤ dx := by
    first
      | simpa only [Heap.size_push] using (dn)
      | exact dn
      | (have qd := dn; rw [Heap.size_push, Heap.size_push] at qd; exact qd)
  exact ⟨rfl, hq h2 tk2 (hp.objs.size + 1) dx ⟨fun b o e => k2 b o (Nat.ne_of_lt (Nat.lt_succ_of_lt (Heap.lt_size e))) (k b o e), Nat.le_succ _, ⟨_, _, hx, rfl, rfl, rfl, rfl⟩, Nat.le_trans (Nat.le_trans (Nat.le_succ _) (Nat.le_succ _)) z, dne, hns⟩⟩
end
end K87
end

section
set_option Elab.async false
set_option linter.all false
set_option maxRecDepth 100000
set_option maxHeartbeats 1100000
set_option autoImplicit false
namespace K87
open L2 PySem PySem.Spec PyProof.Rows
theorem relO_one {f0 : Str} {v : V} {v' : Value} (r : RelV v v') (f : Str) : RelO (List.lookup f [(f0, v)]) (if f = f0 then some v' else none) := by
  rw [lookup_put]
  by_cases h : f = f0
  · rw [if_pos h, if_pos h]; exact r
  · rw [if_neg h, if_neg h]; trivial
section
variable {X : Cx} {C fI : Addr} {x f q : Str} {B newId initId : String} {tl : List Value}
def tOE (C : Addr) (f : Str) (ta : TA) : L2.St → Hp → XK → Prop := fun σ H Q => ta σ H fun vs H1 => ∃ v, vs = [v] ∧ ∀ d, H1 d = none → Q (.ref C) (some d) (upd H1 d (.xd [(f, v)]))
theorem pmk_oe (BF : ExcBaseFacts B newId initId tl) (SF : StoreFacts B tl "object.__setattr__" "object") (T : OEc X.K X.mg x f q newId tl C fI) (n : OEn f q) {a : Expr} {ta : TA} {p pos : Pos} {k : Nat} (hr : Room k X.A) (ha : PA X [a] ta) (hg : Gl X x)
    (hdb : (x == ("__debug__" : Str)) = false := by decide) (he : starEach (a :: []) X.env = (false, eval a X.env) :: starEach [] X.env := by rfl) (hpl : (backTo pos (starEach [] X.env)).any (·.1) = false := by rfl) :
    PMk X (.Call (.Name x p) [a] [] pos) (tOE C f ta) := by
  intro pins s σ H Q I h
  refine wpAny_Call_Name_kw (ld_glob I hg T.gC ?_ hdb)
  refine PySem.W.callWith_K (h₀ := X.base) I.ok.mod.kin T.kC (thn (ha.run pos pins s σ H _ I h) fun us s1 ⟨vs, H1, I1, r1, v, ev, q1⟩ => ⟨I1.kIn, ?_⟩) he hpl
  subst ev
  cases r1 with
  | cons rv rn =>
    rename_i v2 us2
    cases rn
    show wpAny _ _ (call (.ref C) [_]) _ _ _
    have lim := I1.nolimit
    (obtain ⟨hp, g, dr, tk, os⟩ := s1); refine wpAny_call (oe_made BF SF T n I1.kIn lim (by have := hr.dp; omega) fun h2 tk2 e d M => ?_)
    show MkP X pins σ Q (.ref e) ⟨h2, g, dr, tk2, os⟩
    obtain ⟨oe, fv, o1, o2, o3, o4, o5⟩ := M.obj
    obtain ⟨G2, g1, g2⟩ := restrict h2 fun b => decide (b ≠ e)
    have same : ∀ b, b ≠ e → G2.get? b = h2.get? b := fun b hb => g1 b (decide_eq_true hb)
    have gone : G2.get? e = none := g2 e (by simp)
    have J : Inv X pins σ (upd H1 d (.xd [(f, v)])) ⟨G2, g, dr, tk2, os⟩ := I1.laid (t' := tk2) (fun b o z => (same b (Nat.ne_of_lt (Nat.lt_of_lt_of_le (Heap.lt_size z) M.new))).trans (M.keep b o z)) M.dbig
      (⟨_, M.ns.at (fun o z => (same d M.dne).trans z), fun y => relO_one rv y⟩ : ObjOk X.prog X.w (upd H1 d (.xd [(f, v)])) G2 d (.xd [(f, v)]))
    refine ⟨e, oe, fv, ⟨G2, g, dr, tk2, os⟩, _, .ref C, some d, rfl, J, fun b o z => ?_, gone, o1, ⟨o2, o3⟩, o4, o5, ?_, rfl, I1.bare, raises_own T.exC T.tyC, q1 d (I1.hok.fresh M.dbig)⟩
    · by_cases hb : b = e
      · subst hb
        have z' : G2.get? b = some o := z
        rw [gone] at z'; cases z'
      · exact (same b hb).symm.trans z
    · rw [upd_ne (Ne.symm M.dne)]
      exact I1.hok.fresh M.new
/-- raise C(e) -/
theorem s_raise {E : XK} {F : KF} {ρ : Env'} {μ : Mu} {N : DN} {a : Expr} {p pos pos2 : Pos} {k : Nat} (BF : ExcBaseFacts B newId initId tl) (SF : StoreFacts B tl "object.__setattr__" "object") (T : OEc X.K X.mg x f q newId tl C fI) (n : OEn f q) (hc : X.calm = true) (tk : Takes X (fun cls d _ H => E cls d H)) (hr : Room k X.A) (hg : Gl X x)
    (h : dA X E F [a] ρ μ fun as μ1 => ∃ r, as = [r] ∧ F C f r μ1)
    (hdb : (x == ("__debug__" : Str)) = false := by decide) (he : starEach (a :: []) X.env = (false, eval a X.env) :: starEach [] X.env := by rfl) (hpl : (backTo pos (starEach [] X.env)).any (·.1) = false := by rfl) :
    dS X E F (.Raise (some (.Call (.Name x p) [a] [] pos)) none pos2) ρ μ N := fun σ G H sr m pf D po => by
  refine w_ps (ps_raise hc tk (pmk_oe BF SF T n hr pa_w hg hdb he hpl)) ?_
  refine h σ G H sr m pf _ fun vs as G1 μ1 H1 ⟨r, hr, hF⟩ st m1 rs => ?_
  subst hr
  obtain ⟨v, rfl, rv⟩ : ∃ v, vs = [v] ∧ Rep X.K G1 v r := by
    cases rs with
    | cons r1 r2 => (cases r2; exact ⟨_, rfl, r1⟩)
  refine ⟨v, rfl, fun d hd => ?_⟩
  exact pf C f r v d G1 μ1 _ hF (st.trans (Stp.out hd)) (m1.out hd) rv upd_same
end
section
variable {base : Heap} {P : Program} {w : World} {K : PySem.W.Frag} {mg : Str → Option Value}
/-- a def that may raise, to be called by its name -/
structure CalX (P : Program) (w : World) (K : PySem.W.Frag) (mg : Str → Option Value) (base : Heap) (k : Nat) (x : Str) (sp : Sp) : Prop where
  ex : ∃ (f : Addr) (fd : FuncData) (ps : List Str), FnOk P w K mg base (L2.CX P w) k f fd ps sp ∧ mg x = some (.ref f) ∧ PySem.W.keepIn K (.ref f) = true ∧ Binds K fd ps []
abbrev XC (P : Program) (w : World) (K : PySem.W.Frag) (mg : Str → Option Value) (base : Heap) (N : List Str) (qual : Str) (st : Stmt) (f : Addr) (cdv : Value) (A : Around) (outer : List Env) (s : Shared) (H : Hp) (E : XK) : Cx :=
  cxOf (L2.CX P w) P w K mg base N qual (C8.fnScope st) f cdv A outer s H E
theorem fnX {x qual : Str} {st : Stmt} {f : Addr} {fd : FuncData} {N ps : List Str} {k : Nat} {sp : Sp} (F : C8.Fun K x qual st f fd) (S : FnScope N ps (C8.fnScope st)) (len : ∀ vs H Q E, sp vs H Q E → vs.length = ps.length)
    (hbody : ∀ (cdv : Value) (A : Around) (outer : List Env) (s : Shared) (H : Hp) (vs : List V) (Q : VK) (E : XK), Room k (A.deeper (envOfC qual (C8.fnScope st) s.heap.objs.size f cdv)) → sp vs H Q E →
      ∃ t, PSs (XC P w K mg base N qual st f cdv A outer s H E) (C8.fnBody st) t ∧ t { nx := fun _ H' => Q .non H', rt := Q } (start N vs) H) : FnOk P w K mg base (L2.CX P w) (k + 1) f fd ps sp := by
  (obtain ⟨oc, od, dV, kV, doc, pm, an, cdv, ct, osl, rfl, lk, hcd⟩ := F.ex); exact fn_of lk hcd S len fun A outer s H vs Q E hr hsp => hbody cdv A outer s H vs Q E hr hsp
theorem calX {x : Str} {st : Stmt} {f : Addr} {fd : FuncData} {N ps : List Str} {lvl : Nat} {fs : FS} (D : C8.Def K mg x st f fd) (b : Binds K fd ps []) (S : FnScope N ps (C8.fnScope st)) (len : ∀ as μ k F, fs as μ k F → as.length = ps.length)
    (hbody : ∀ (cdv : Value) (A : Around) (outer : List Env) (s : Shared) (H : Hp) (E : XK), Room lvl (A.deeper (PyProof.Rows.envOfC x (C8.fnScope st) s.heap.objs.size f cdv)) → ∀ as μ k F, fs as μ k F →
      dSs (XC P w K mg base N x st f cdv A outer s H E) E F (C8.fnBody st) (startR N as) μ { nx := fun _ μ' => k nv μ', rt := k }) : CalX P w K mg base (lvl + 1) x (spF K fs) := by
  refine ⟨f, fd, ps, fnX D.fn S (fun vs H Q E h => ?_) (fun cdv A outer s H vs Q E hr h => ?_), D.mgf, D.kp, b⟩
  · obtain ⟨G, μ, as, k, F, r, m, h, _⟩ := h
    rw [Reps.len r]
    exact len as μ k F h
  · obtain ⟨G, μ, as, k, F, r, m, h, po, pf⟩ := h
    refine ⟨_, pss_w, ?_⟩
    exact hbody cdv A outer s H E hr as μ k F h (L2.start N vs) G H (start_sr r) m pf _ ⟨fun σ' ρ' G' μ' H' h1 s1 m1 _ => po .non nv G' μ' H' h1 s1 m1 Dp.non, po, fun _ _ _ _ _ h1 => h1.elim, fun _ _ _ _ _ h1 => h1.elim⟩
theorem takesC {N : List Str} {qual : Str} {st : Stmt} {f : Addr} {cdv : Value} {A : Around} {outer : List Env} {s : Shared} {H : Hp} {E : XK} : Takes (XC P w K mg base N qual st f cdv A outer s H E) (fun cls d _ H => E cls d H) := takes_of rfl rfl rfl rfl
theorem passC {N : List Str} {qual : Str} {st : Stmt} {f : Addr} {cdv : Value} {A : Around} {outer : List Env} {s : Shared} {H : Hp} {E : XK} : Passes (L2.CX P w) (XC P w K mg base N qual st f cdv A outer s H E) E := fun pins σ H1 s1 e s' I c => passes_call takesC (fun _ _ _ _ h => h) pins σ H1 s1 e s' I c
theorem ownsC {N : List Str} {qual : Str} {st : Stmt} {f : Addr} {cdv : Value} {A : Around} {outer : List Env} {s : Shared} {H : Hp} {E : XK} : PassesOwn (model P w) (XC P w K mg base N qual st f cdv A outer s H E).A (XC P w K mg base N qual st f cdv A outer s H E).env (XC P w K mg base N qual st f cdv A outer s H E).xe := passes_of (X := XC P w K mg base N qual st f cdv A outer s H E) (K := fun e s'' => L2.CX P w outer H s E e s'') rfl
end
section
variable {X : Cx} {E : XK} {F : KF} {ρ : Env'} {μ : Mu}
/-- a call of a def that may raise -/
theorem d_callY {x : Str} {p pos : Pos} {e : Expr} {es : List Expr} {k : KV'} {lv' n : Nat} {fs : FS} (c : CalX X.prog X.w X.K X.mg X.base lv' x (spF X.K fs)) (hr : Room n X.A) (hle : lv' ≤ n) (hg : Gl X x) (hx : Passes (CX X.prog X.w) X E) (h : dA X E F (e :: es) ρ μ fun as μ1 => fs as μ1 k F) (hdb : (x == ("__debug__" : Str)) = false := by decide) (he : starEach (e :: es) X.env = (false, eval e X.env) :: starEach es X.env := by rfl) (hpl : (backTo pos (starEach es X.env)).any (·.1) = false := by rfl) : dE X E F (.Call (.Name x p) (e :: es) [] pos) ρ μ k := by
  obtain ⟨f, fd, ps, Fo, hm, kp, b⟩ := c.ex
  exact d_callX Fo (hr.mono hle) hg hm kp b hx h hdb he hpl
/-- an own list is from here on data -/
theorem d_frz {e : Expr} {k : KV'} (h : dE X E F e ρ μ fun a μ1 => ∃ p ds, a = rv p ∧ μ1 p = some (.lst (ds.map .d)) ∧ k (lv ds) (mdel μ1 p)) : dE X E F e ρ μ k := fun σ G H sr m pf Q po => by
  refine h σ G H sr m pf Q fun v a G1 μ1 H1 ⟨p, ds, ea, hp, hk⟩ st m1 rv => ?_
  subst ea
  obtain rfl : v = V.ref p := rv
  obtain ⟨_, vs, e1, rs⟩ := m1.obj p _ hp
  have s1 : Stp G1 μ1 H1 (upd G1 p (.lst vs)) (mdel μ1 p) H1 := Stp.freeze m1 hp
  exact po _ (lv ds) _ _ H1 hk (st.trans s1) (m1.freeze hp e1) (show Dp X.K _ _ _ from .lst (SqL.of upd_same) (reps_dpAll (Reps.ext s1.ex rs)))
end
end K87
end

section
set_option Elab.async false
set_option linter.all false
set_option maxRecDepth 100000
set_option maxHeartbeats 1100000
set_option autoImplicit false
namespace K87
open PySem PySem.Spec PyProof.Rows L2 K87M
theorem aft_len {h g : List Int} {s : K87M.Step} (e : aft h s = some g) : g.length ≤ h.length + s.cnt := by
  cases s with
  | push x c =>
    cases e
    have : (up h x).length ≤ h.length := List.length_filter_le _ _
    (rw [List.length_append, List.length_replicate]); show _ ≤ h.length + c
    omega
  | pop c =>
    unfold aft at e
    simp only at e
    split at e
    · cases e; rw [List.length_take]; omega
    · cases e
theorem runF_len : ∀ {ss : List K87M.Step} {h g : List Int} {i : Nat}, runF h i ss = .inl g → g.length ≤ h.length + total ss
  | [], h, g, i, e => by cases e; exact Nat.le_add_right _ _
  | s :: r, h, g, i, e => by
    rw [runF_cons] at e
    rw [total_cons]
    split at e
    · cases e
    · rename_i g1 e1
      have := aft_len e1
      have := runF_len e
      omega
/-- the stack behind j steps -/
def outS (g : List Int) (ss : List K87M.Step) (j : Nat) : AV := match runF g 0 (ss.take j) with
  | .inl h => .d (stk h)
  | .inr _ => .d (.dict [])
theorem runF_snoc {g h : List Int} {d : List K87M.Step} (s : K87M.Step) (e : runF g 0 d = .inl h) : runF g 0 (d ++ [s]) = match aft h s with | none => .inr d.length | some h1 => .inl h1 := by
  rw [runF_append, e]
  show runF h (0 + d.length) [s] = _
  rw [runF_cons, Nat.zero_add]
  cases aft h s <;> rfl
theorem runF_stop {g : List Int} {d r : List K87M.Step} {i : Nat} (e : runF g 0 d = .inr i) : runF g 0 (d ++ r) = .inr i := by rw [runF_append, e]
theorem take_snoc {α : Type} {l d r : List α} {a : α} (e : l = d ++ a :: r) : l.take (d.length + 1) = d ++ [a] := by
  subst e
  rw [List.take_append, List.take_of_length_le (Nat.le_succ _), show d.length + 1 - d.length = 1 by omega]
  rfl
abbrev tlR : List Value := [.type "RuntimeError", .type "Exception", .type "BaseException", .type "object"]
abbrev tlL : List Value := [.type "LookupError", .type "Exception", .type "BaseException", .type "object"]
/-- the class StepFailed -/
structure SF (K : PySem.W.Frag) (mg : Str → Option Value) (C fI : Addr) : Prop where
  oe : OEc K mg "StepFailed" "index" "StepFailed.__init__" "RuntimeError.__new__" tlR C fI
  noStop : PySem.W.subIn K (.ref C) (.type "StopIteration") = some false
theorem oen_index : OEn "index" "StepFailed.__init__" := ⟨fun _ _ _ _ _ _ _ _ _ _ _ _ _ => rfl, fun _ _ => by rfl, fun _ _ _ _ _ => by rfl, fun _ _ _ _ _ => by rfl, fun _ _ _ => by rfl, fun _ _ _ => by rfl, by decide⟩
def gsStacks (C : Addr) : GS' := fun as n out FX => ∃ (g : List Int) (ss : List K87M.Step) (a : AV), Dec g ∧ g.length + total ss < 100000 ∧ (∀ s ∈ ss, s.Ok) ∧ SeqD ss a ∧ as = [.d (stk g), a] ∧ n = ss.length ∧ out = outS g ss ∧ ∀ i μ, runF g 0 ss = .inr i → FX C "index" (iv (i : Int)) μ
section
variable {P : Program} {w : World} {K : PySem.W.Frag} {mg : Str → Option Value} {base : Heap} {f : Addr} {fd : FuncData} {C fI : Addr}
theorem sc_stacks : GScope ["stack", "sequence", "index", "step"] ["stack", "sequence"] (C8.fnScope (top 25)) := ⟨rfl, rfl, rfl, by decide +kernel, rfl, by decide +kernel, by decide +kernel⟩
theorem gen_stacks (D : C8.Def K mg "stacks_after" (top 25) f fd) (B : Bl mg) (T : SF K mg C fI) (c_after_step : C8.Cal P w K mg base 3 "after_step" (spF K fsAfter) []) : ∃ cdv, GenOk P w K mg base ["stack", "sequence", "index", "step"] "stacks_after" (C8.fnScope (top 25)) cdv "stack" 4 f fd ["stack", "sequence"] (gsStacks C) := by
  obtain ⟨oc, od, dV, kV, doc, pm, an, cdv, ct, osl, rfl, lk, hcd⟩ := D.fn.ex
  refine ⟨cdv, gen_ok (nm := "stack") (q := 0) lk hcd sc_stacks rfl rfl (by decide) (by decide) (fun as n out FX ⟨_, _, _, _, _, _, _, h, _⟩ => by rw [h]; rfl) ?_ (fun _ => rfl) fun _ _ => rfl⟩
  intro A outer s H E pn L as n out FX hr ⟨g, ss, a, dg, hl, ok, sq, has, hn, hout, hFX⟩
  subst has hn hout
  refine ⟨K87M.Step × Nat, ss.zipIdx, fun p => tv [.int (p.2 : Int), stepD p.1], fun d ρ => ∃ h x y, runF g 0 (d.map (·.1)) = .inl h ∧ ρ = [some (.d (stk h)), some a, x, y], by simp, ⟨g, none, none, rfl, rfl⟩, fun o => ?_, fun o d p r ρ hd ⟨h, x, y, hrun, hρ⟩ => ?_⟩
  · cases sq with
    | lst =>
      refine i_enumL rfl B.enumerate ?_
      refine d_var 1 rfl ?_
      refine ⟨_, .lst _, fun x hx j z e => ?_, rfl, enAll_steps ss, .lst _⟩
      obtain ⟨_, _, e'⟩ := List.mem_map.mp hx
      rw [e] at e'; cases e'
    | tup =>
      refine i_enumT rfl B.enumerate ?_
      refine d_var 1 rfl ?_
      exact ⟨_, rfl, rfl, enAll_steps ss, trivial⟩
  · subst hρ
    have hp2 : p.2 = d.length := by
      have h1 : (ss.zipIdx)[d.length]? = some p := by rw [hd]; simp
      rw [List.getElem?_zipIdx] at h1
      cases e : ss[d.length]? with
      | none => rw [e] at h1; cases h1
      | some s => rw [e] at h1; cases h1; simp
    have hss : ss = d.map (·.1) ++ p.1 :: r.map (·.1) := by
      have h1 : ss.zipIdx.map (·.1) = (d ++ p :: r).map (·.1) := by rw [hd]
      simpa using h1
    have hmem : p.1 ∈ ss := by rw [hss]; simp
    have hlen := runF_len hrun
    have htot : total ss = total (d.map (·.1)) + (p.1.cnt + total (r.map (·.1))) := by
      conv => lhs; rw [hss]
      rw [total_app, total_cons]
    have hdh : Dec h := dec_runF dg hrun
    have hsn := runF_snoc p.1 hrun
    rw [List.length_map] at hsn
    have htake : outS g ss (d.length + 1) = match aft h p.1 with | none => .d (.dict []) | some h1 => .d (stk h1) := by
      have e1 : ss.take (d.length + 1) = d.map (·.1) ++ [p.1] := by
        have := take_snoc hss
        rwa [List.length_map] at this
      unfold outS
      rw [e1, hsn]
      cases aft h p.1 <;> rfl
    refine g_tup rfl ⟨_, rfl, rfl, ?_⟩
    refine gs_cons (g_name 2 ?_ sc_stacks.nd)
    refine gs_cons (g_name 3 ?_ sc_stacks.nd)
    refine gs_nil ?_
    refine s_set 0 ?_ sc_stacks.nd
    refine d_call c_after_step hr (by decide) rfl ?_
    refine d_cons ?_
    refine d_var 0 rfl ?_
    refine d_cons ?_
    refine d_var 3 rfl ?_
    refine d_nil ?_
    refine ⟨_, ⟨h, p.1, hdh, by omega, ok _ hmem, rfl, rfl⟩, ?_⟩
    cases hs : aft h p.1 with
    | none =>
      rw [hs] at hsn
      have hall : runF g 0 ss = .inr d.length := by
        conv => lhs; rw [hss, show d.map (·.1) ++ p.1 :: r.map (·.1) = (d.map (·.1) ++ [p.1]) ++ r.map (·.1) by simp]
        exact runF_stop hsn
      refine s_if ?_
      refine d_tcmp op_isN rfl ?_
      refine d_var 0 rfl ?_ -- stack
      refine d_non ?_
      refine dr_isN ⟨true, rfl, .inl ⟨rfl, rfl⟩, _, rfl, fun _ => ?_, fun h => absurd h (by decide)⟩
      refine s_one ?_
      refine s_raise (k := 2) PySem.F.excBase_RuntimeError PySem.F.store_RuntimeError T.oe oen_index rfl takes_XR (hr.mono (by decide)) rfl ?_
      refine d_cons ?_
      refine d_var 2 rfl ?_
      refine d_nil ?_
      rw [hp2]
      exact ⟨_, rfl, hFX _ _ hall⟩
    | some h1 =>
      rw [hs] at hsn htake
      refine s_if ?_
      refine d_tcmp op_isN rfl ?_
      refine d_var 0 rfl ?_ -- stack
      refine d_non ?_
      refine dr_isN ⟨false, rfl, .inr ⟨fun K G v r => by obtain ⟨_, _, rfl, _⟩ := rep_tup r; exact fun z => (nomatch z), rfl⟩, _, rfl, fun h => absurd h (by decide), fun _ => ?_⟩
      refine s_nil ?_
      refine ⟨rfl, ?_, h1, _, _, ?_, rfl⟩
      · rw [htake]; rfl
      · rw [List.map_append]; exact hsn
theorem dSs_bad {X : Cx} {E : XK} {F : KF} {ρ : Env'} {μ : Mu} {N : DN} {sts : List Stmt} {i : Nat} {kv : List (PyData × PyData)} (h : ρ[i]? = some (some (.d (.dict kv)))) : dSs X E F sts ρ μ N := fun σ G H sr m pf D po => by
  obtain ⟨v, _, r⟩ := sr.get i _ h
  cases r
/-! ### run_valid -/
def fsRun (C : Addr) : FS := fun as μ k F => ∃ (g : List Int) (ss : List K87M.Step) (a : AV), Dec g ∧ g.length + total ss < 100000 ∧ (∀ s ∈ ss, s.Ok) ∧ SeqD ss a ∧ as = [.d (stk g), a] ∧ (∀ h, runF g 0 ss = .inl h → k (.d (stk h)) μ) ∧ ∀ i, runF g 0 ss = .inr i → F C "index" (iv (i : Int)) μ
theorem sc_run_valid : FnScope ["stack", "sequence", "later"] ["stack", "sequence"] (C8.fnScope (top 26)) := C8.fnScope_by (by decide +kernel)
theorem cal_run_valid {fG : Addr} {fdG : FuncData} {cdg : Value} {Ng : List Str} {scopeg : Scope} (D : C8.Def K mg "run_valid" (top 26) f fd) (b : Binds K fd ["stack", "sequence"] []) (B : Bl mg) (T : SF K mg C fI) (GO : GenOk P w K mg base Ng "stacks_after" scopeg cdg "stack" 4 fG fdG ["stack", "sequence"] (gsStacks C)) (DG : C8.Def K mg "stacks_after" (top 25) fG fdG) (bG : Binds K fdG ["stack", "sequence"] []) :
    CalX P w K mg base 6 "run_valid" (spF K (fsRun C)) := by
  refine calX D b sc_run_valid (fun as μ k F ⟨_, _, _, _, _, _, _, h, _⟩ => by rw [h]; rfl) fun cdv A outer s H E hr as μ k F ⟨g, ss, a, dg, hl, ok, sq, h, hk, hF⟩ => ?_
  subst h
  refine s_cons ?_
  refine s_forGen (i := 2) (j := 0) GO hr rfl ownsC (fun pins σ H1 s1 e s' I c => ?_) rfl rfl (fun z c e => by cases e) rfl DG.mgf DG.kp bG sc_run_valid.nd rfl rfl rfl rfl ?_
  · obtain ⟨a, B, H', cls, d, z1, fl, z2, ub, z3, z4, z5, z6⟩ := c
    exact passC pins σ H1 s1 e s' I ⟨a, B, H', cls, d, z1, fl, z2, ub, z3, z4, z5, z6.1⟩
  refine d_cons ?_
  refine d_var 0 rfl ?_ -- stack
  refine d_cons ?_
  refine d_var 1 rfl ?_ -- sequence
  refine d_nil ?_
  refine ⟨ss.length, outS g ss, fun C' fl a' _ => C' = C ∧ fl = "index" ∧ ∃ i : Nat, a' = iv (i : Int) ∧ runF g 0 ss = .inr i, ⟨g, ss, a, dg, hl, ok, sq, rfl, rfl, rfl, fun i μ hi => ⟨rfl, rfl, i, rfl, hi⟩⟩, ?_, fun h0 => ?_, fun h0 => ?_⟩
  · rintro C' fl a' μ' ⟨rfl, rfl, i, rfl, hi⟩
    exact ⟨hF i hi, T.noStop⟩
  · have e : ss = [] := List.eq_nil_of_length_eq_zero h0
    subst e
    refine s_one ?_
    refine s_ret ?_
    refine d_var 0 rfl ?_ -- stack
    exact hk g rfl
  · have e : outS g ss ss.length = match runF g 0 ss with | .inl h => .d (stk h) | .inr _ => .d (.dict []) := by
      unfold outS
      rw [List.take_length]
    cases hs : runF g 0 ss with
    | inl h =>
      rw [hs] at e
      rw [e]
      refine s_one ?_
      refine s_ret ?_
      refine d_var 0 rfl ?_ -- stack
      exact hk h hs
    | inr i =>
      rw [hs] at e
      rw [e]
      exact dSs_bad (i := 0) rfl
/-! ### run -/
theorem len_total : ∀ {ss : List K87M.Step}, (∀ s ∈ ss, s.Ok) → ss.length ≤ total ss
  | [], _ => Nat.zero_le _
  | s :: r, h => by
    rw [total_cons, List.length_cons]
    have h1 : 1 ≤ s.cnt := h s (List.mem_cons_self ..)
    have := len_total (ss := r) fun x hx => h x (List.mem_cons_of_mem _ hx)
    omega
theorem sc_run : FnScope ["stack", "sequence"] ["stack", "sequence"] (C8.fnScope (top 27)) := C8.fnScope_by (by decide +kernel)
theorem cal_run (D : C8.Def K mg "run" (top 27) f fd) (b : Binds K fd ["stack", "sequence"] []) (B : Bl mg) (c_check_stack : C8.Cal P w K mg base 5 "check_stack" (spF K fsChkStack) []) (c_check_sequence : C8.Cal P w K mg base 4 "check_sequence" (spF K fsChkSeq) []) (c_run_valid : CalX P w K mg base 6 "run_valid" (spF K (fsRun C))) : CalX P w K mg base 7 "run" (spF K (fsRun C)) := by
  refine calX D b sc_run (fun as μ k F ⟨_, _, _, _, _, _, _, h, _⟩ => by rw [h]; rfl) fun cdv A outer s H E hr as μ k F ⟨g, ss, a, dg, hl, ok, sq, h, hk, hF⟩ => ?_
  have hsl := len_total ok
  have hrl := runs_len g
  subst h
  refine s_cons ?_
  refine s_expr ?_
  refine d_call c_check_stack hr (by decide) rfl ?_
  refine d_cons ?_
  refine d_var 0 rfl ?_ -- stack
  refine d_nil ?_
  refine ⟨_, ⟨runs g, by omega, run_pos, dec_runs dg, rfl, rfl⟩, ?_⟩ -- check_stack
  refine s_cons ?_
  refine s_expr ?_
  refine d_call c_check_sequence hr (by decide) rfl ?_
  refine d_cons ?_
  refine d_var 1 rfl ?_ -- sequence
  refine d_nil ?_
  refine ⟨_, ⟨ss, a, by omega, ok, sq, rfl, rfl⟩, ?_⟩ -- check_sequence
  refine s_one ?_
  refine s_ret ?_
  refine d_callY c_run_valid hr (by decide) rfl passC ?_
  refine d_cons ?_
  refine d_var 0 rfl ?_ -- stack
  refine d_cons ?_
  refine d_var 1 rfl ?_ -- sequence
  refine d_nil ?_
  exact ⟨g, ss, a, dg, hl, ok, sq, rfl, hk, hF⟩
end
end K87
end

section
set_option Elab.async false
set_option linter.all false
set_option maxRecDepth 100000
set_option maxHeartbeats 1100000
set_option autoImplicit false
namespace K87
open PySem PySem.Spec PyProof.Rows L2 K87M
/-- a chain of two comparisons, asked for its truth -/
theorem d_tchain {X : Cx} {E : XK} {F : KF} {ρ : Env'} {μ : Mu} {kT : Bool → Mu → Prop} {op op' : CmpOp} {r r' : R2} {a b c : Expr} {pos : Pos} (ho : OpR X (compareOp op) r) (ho' : OpR X (compareOp op') r') (hp : PT X (.Compare a [op, op'] [b, c] pos) (tTest (tChain r r' (wE X a) (wE X b) (wE X c))))
    (h : dE X E F a ρ μ fun x μ1 => dE X E F b ρ μ1 fun y μ2 => dR X.K r x y μ2 fun z μ3 => ∃ t, z = bv t ∧ (t = true → dE X E F c ρ μ3 fun w μ4 => dR X.K r' y w μ4 (kB kT)) ∧ (t = false → kT false μ3)) : dT X E F (.Compare a [op, op'] [b, c] pos) ρ μ kT := fun σ G H sr m pf Q po => by
  refine w_pt hp ?_
  refine h σ G H sr m pf _ fun v a G1 μ1 H1 h1 st m1 r1 => ?_
  refine h1 σ G1 H1 (sr.ext st.ex) m1 (pf.step st) _ fun u b G2 μ2 H2 h2 st2 m2 r2 => ?_
  refine h2 v u G2 H2 (r1.ext st2.ex) r2 m2 _ fun z t G3 μ3 H3 h3 st3 m3 r3 => ?_
  obtain ⟨t, rfl, q1, q2⟩ := h3
  refine ⟨t, rep_bl r3, ?_⟩
  have s3 := (st.trans st2).trans st3
  cases t with
  | false => exact iteF ⟨_, rfl, po false G3 μ3 H3 (q2 rfl) s3 m3⟩
  | true =>
    refine iteT (q1 rfl σ G3 H3 (sr.ext s3.ex) m3 (pf.step s3) _ fun w' d G4 μ4 H4 h4 st4 m4 r4 => ?_)
    exact h4 u w' G4 H4 (r2.ext (st3.ex.trans st4.ex)) r4 m4 _ (postB (po.step (s3.trans st4)))
/-- names that may be users -/
def letters : Str := "abcdefghijklmnopqrstuvwxyz"
def UserOk (u : Str) : Prop := 1 ≤ u.length ∧ u.length ≤ 8 ∧ ∀ c ∈ u.cps.toList, c ∈ letters.cps.toList
theorem user_ann : UserOk "ann" := ⟨by decide +kernel, by decide +kernel, by decide +kernel⟩
theorem user_b : UserOk "b" := ⟨by decide +kernel, by decide +kernel, by decide +kernel⟩
theorem user_abc : UserOk "abcdefgh" := ⟨by decide +kernel, by decide +kernel, by decide +kernel⟩
section
variable {P : Program} {w : World} {K : PySem.W.Frag} {mg : Str → Option Value} {base : Heap} {f : Addr} {fd : FuncData} {C fI : Addr}
def fsIsName : FS := ret fun as r => ∃ u : Str, UserOk u ∧ as = [sv u] ∧ r = .bool true
theorem sc_is_name : FnScope ["value", "letter"] ["value"] (C8.fnScope (top 48)) := C8.fnScope_by (by decide +kernel)
theorem cal_is_name (D : C8.Def K mg "is_name" (top 48) f fd) (b : Binds K fd ["value"] []) (B : Bl mg) (hlet : ∃ t, mg "LETTERS" = some (.str letters t)) (hmost : ∃ t, mg "MOST_LETTERS" = some (.int 8 t)) : C8.Cal P w K mg base 2 "is_name" (spF K fsIsName) [] := by
  obtain ⟨tl, hlet⟩ := hlet
  obtain ⟨tm, hmost⟩ := hmost
  refine calD D b sc_is_name (fun as μ k F ⟨_, ⟨n, _, h, _⟩, _⟩ => by rw [h]; rfl) fun cdv A outer s H E hr as μ k F ⟨r, ⟨u, ⟨u1, u2, u3⟩, h, hr'⟩, hk⟩ => ?_
  subst h hr'
  refine s_cons ?_
  refine s_if ?_
  refine d_tW ?_
  refine d_wor ?_
  refine d_tnot ?_
  refine d_tval ?_
  refine d_isi rfl B.isinstance rfl B.str bt_str ?_
  refine d_var 0 rfl ?_ -- value
  refine ⟨_, _, rfl, kt_ss, ?_⟩
  refine ⟨_, rfl, fun h => absurd h (by decide), fun _ => ?_⟩
  refine d_wor1 ?_
  refine d_tnot ?_
  refine d_tchain op_le op_le (pt_chain op_le op_le pe_w pe_w pe_w) ?_
  refine d_int ?_
  refine d_lenS rfl B.len ?_
  refine d_var 0 rfl ?_ -- value
  refine ⟨u, rfl, by omega, ?_⟩
  refine dr_c ⟨_, _, rfl, rfl, _, rfl, fun _ => ?_, fun h => absurd (of_decide_eq_false h) (fun z => z (by omega))⟩
  refine d_glob (v := .int 8) (a := iv 8) rfl hmost ⟨_, rfl⟩ (fun _ => Dp.int _) ?_
  refine dr_c ⟨_, _, rfl, rfl, _, rfl, ?_⟩
  have e1 : decide ((u.length : Int) ≤ 8) = true := decide_eq_true (by omega)
  refine ⟨fun h => ?_, fun _ => ?_⟩
  · have h' : (!decide ((u.length : Int) ≤ 8)) = true := h
    rw [e1] at h'; cases h'
  refine s_nil ?_
  refine s_one ?_
  refine s_ret ?_
  refine d_all rfl rfl B.all ?_
  refine d_lc1 1 [("letter", 1)] rfl sc_is_name.nd (blkOk_by (N := ["value", "letter"]) (sc := C8.fnScope (top 48)) (by decide +kernel)) ?_
  refine i_str ?_
  refine d_var 0 rfl ?_ -- value
  refine ⟨u, rfl, lcF_lcW ⟨trivial, _, u.cps.toList, fun c => sv ⟨#[c]⟩, fun c => some (.bool true), rfl, by rw [Array.length_toList]; show u.length < _; omega, fun a ha => ?_, ?_⟩⟩
  · refine ⟨_, rfl, ?_⟩
    refine ⟨rfl, fun h => absurd h (by decide), fun _ => ?_⟩
    intro s H0 C cl fp
    refine d_cmp op_in_sign rfl ?_
    refine d_var 1 rfl ?_ -- letter
    refine d_glob (v := .str letters) (a := sv letters) rfl hlet ⟨_, rfl⟩ (fun _ => Dp.str _) ?_
    refine dr_inS ⟨a, letters, rfl, rfl, ?_⟩
    rw [decide_eq_true (u3 a ha)]
    exact ⟨rfl, _, rfl, rfl⟩
  refine ⟨u.cps.toList.map fun _ => true, lst_bools _ _ (fm_const _), ?_⟩
  rw [all_true]
  exact hk
/-! ### check_user -/
def fsChkUser : FS := ret fun as r => ∃ u : Str, UserOk u ∧ as = [sv u] ∧ r = .none
theorem sc_check_user : FnScope ["user"] ["user"] (C8.fnScope (top 49)) := C8.fnScope_by (by decide +kernel)
theorem cal_check_user (D : C8.Def K mg "check_user" (top 49) f fd) (b : Binds K fd ["user"] []) (B : Bl mg) (c_is_name : C8.Cal P w K mg base 2 "is_name" (spF K fsIsName) []) : C8.Cal P w K mg base 3 "check_user" (spF K fsChkUser) [] := by
  refine calD D b sc_check_user (fun as μ k F ⟨_, ⟨n, _, h, _⟩, _⟩ => by rw [h]; rfl) fun cdv A outer s H E hr as μ k F ⟨r, ⟨u, hu, h, hr'⟩, hk⟩ => ?_
  subst h hr'
  refine s_one ?_
  refine s_if ?_
  refine d_tnot ?_
  refine d_tval ?_
  refine d_call c_is_name hr (by decide) rfl ?_
  refine d_cons ?_
  refine d_var 0 rfl ?_ -- user
  refine d_nil ?_
  refine ⟨_, ⟨u, hu, rfl, rfl⟩, _, rfl, fun h => absurd h (by decide), fun _ => ?_⟩ -- is_name
  refine s_nil ?_
  exact hk
end
end K87
end

section
set_option Elab.async false
set_option linter.all false
set_option maxRecDepth 100000
set_option maxHeartbeats 1100000
set_option autoImplicit false
/-! Data-level rules for instances of an own class. -/
namespace K87
open L2 PySem PySem.Spec PyProof.Rows
theorem spF_at {K : PySem.W.Frag} {fs : FS} {G H : Hp} {μ : Mu} {vs : List V} {as : List AV} {k : KV'} {F : KF} {Q : VK} {E : XK} (r : Reps K G vs as) (m : MOk K G μ H) (h : fs as μ k F) (po : Post K G μ H k Q) (pf : PostF K G μ H F E) : spF K fs vs H Q E := ⟨G, μ, as, k, F, r, m, h, po, pf⟩
section
variable {X : Cx} {E : XK} {F : KF} {ρ : Env'} {μ : Mu} {k : KV'} {e o : Expr} {rs : List Expr} {pos p2 apz : Pos} {m : Str} {lv' n : Nat} {fs : FS} {C f : Addr}
/-- o.m(e, ..): a method that may raise, by a positional promise -/
theorem d_methR {pl : Sem Bool} (c : Cls X.K C) (hm : Meth X.K C m f) (Fo : FnR X.prog X.w X.K X.mg X.base (L2.CX X.prog X.w) lv' f (spF X.K fs)) (hr : Room n X.A) (hle : lv' ≤ n) (hx : Passes (L2.CX X.prog X.w) X E)
    (h : dE X E F o ρ μ fun x μ1 => ∃ p gs, x = rv p ∧ μ1 p = some (.ins C gs) ∧ gs.lookup m = none ∧ dA X E F (e :: rs) ρ μ1 fun as μ2 => fs (rv p :: as) μ2 k F)
    (hst : starEach (e :: rs) X.env = (false, eval e X.env) :: starEach rs X.env := by rfl) (hpl : (backTo pos (starEach rs X.env)).any (·.1) = false := by rfl)
    (ht : eval (.Call (.Attribute o m apz) (e :: rs) [] pos) X.env = (do
      let ob ← eval o X.env
      standAt apz.atName
      let (f, fst0) ← holding [ob] (getMethod ob m pl)
      callWith pos f fst0 (backTo pos (starEach (e :: rs) X.env)) (backToKw pos (keywordEach [] X.env))) := by rfl) :
    dE X E F (.Call (.Attribute o m apz) (e :: rs) [] pos) ρ μ k := fun σ G H sr mm pf Q po => by
  refine w_pe (pe_methR (pl := pl) pe_w c hm Fo (hr.mono hle) hx pa_w hst hpl ht) ?_
  refine h σ G H sr mm pf _ fun v x G1 μ1 H1 ⟨p, gs, hx', hp, hl, q⟩ st m1 rx => ?_
  subst hx'
  obtain rfl : v = V.ref p := rx
  obtain ⟨_, dx, vs, e1, pr⟩ := m1.obj p _ hp
  refine ⟨p, dx, vs, rfl, e1, lookF0 pr hl, ?_⟩
  refine q σ G1 H1 (sr.ext st.ex) m1 (pf.step st) _ fun us as G2 μ2 H2 h2 st2 m2 rs => ?_
  exact spF_at (.cons (show Rep X.K G2 (V.ref p) (rv p) from rfl) rs) m2 h2 (po.step (st.trans st2)) (pf.step (st.trans st2))
/-- o.m(): a method that lets no error out -/
theorem d_meth0 {pl : Sem Bool} (c : C8.Met X.prog X.w X.K X.mg X.base lv' C m (spF X.K fs) []) (hr : Room n X.A) (hle : lv' ≤ n)
    (h : dE X E F o ρ μ fun x μ1 => ∃ p gs, x = rv p ∧ μ1 p = some (.ins C gs) ∧ gs.lookup m = none ∧ fs [rv p] μ1 k F0)
    (ht : eval (.Call (.Attribute o m apz) [] [] pos) X.env = (do
      let ob ← eval o X.env
      standAt apz.atName
      let (f, fst0) ← holding [ob] (getMethod ob m pl)
      callWith pos f fst0 (backTo pos (starEach [] X.env)) (backToKw pos (keywordEach [] X.env))) := by rfl) :
    dE X E F (.Call (.Attribute o m apz) [] [] pos) ρ μ k := fun σ G H sr mm pf Q po => by
  refine w_pe (C8.pe_mt0 (pl := pl) c hr hle pe_w ht) ?_
  refine h σ G H sr mm pf _ fun v x G1 μ1 H1 ⟨p, gs, hx', hp, hl, q⟩ st m1 rx => ?_
  subst hx'
  obtain rfl : v = V.ref p := rx
  obtain ⟨_, dx, vs, e1, pr⟩ := m1.obj p _ hp
  exact ⟨p, dx, vs, rfl, e1, lookF0 pr hl, spF_at (.cons (show Rep X.K G1 (V.ref p) (rv p) from rfl) .nil) m1 q (po.step st) PostF.none⟩
/-- o.m( *e), e a tuple of data -/
theorem d_methS (c : Cls X.K C) (b : BMeth X.K C m f) (Fo : FnR X.prog X.w X.K X.mg X.base (L2.CX X.prog X.w) lv' f (spF X.K fs)) (hr : Room n X.A) (hle : lv' ≤ n) (hx : Passes (L2.CX X.prog X.w) X E)
    (h : dE X E F o ρ μ fun x μ1 => ∃ p gs, x = rv p ∧ μ1 p = some (.ins C gs) ∧ gs.lookup m = none ∧ dE X E F e ρ μ1 fun y μ2 => ∃ ds, y = tv ds ∧ fs (rv p :: ds.map .d) μ2 k F)
    (hbase : attributeBase o m X.env (eval o X.env) = eval o X.env := by rfl) :
    dE X E F (.Call (.Attribute o m apz) [.Starred e p2] [] pos) ρ μ k := fun σ G H sr mm pf Q po => by
  refine w_pe (pe_methS pe_w c b Fo (hr.mono hle) hx pe_w hbase) ?_
  refine h σ G H sr mm pf _ fun v x G1 μ1 H1 ⟨p, gs, hx', hp, hl, q⟩ st m1 rx => ?_
  subst hx'
  obtain rfl : v = V.ref p := rx
  obtain ⟨_, dx, vs, e1, pr⟩ := m1.obj p _ hp
  refine ⟨p, dx, vs, rfl, e1, lookF0 pr hl, fun q0 hq0 => ?_⟩
  have sq : Stp G1 μ1 H1 G1 μ1 (upd H1 q0 (.met f p)) := Stp.out hq0
  have mq := m1.out (o := .met f p) hq0
  have s1 := st.trans sq
  refine q σ G1 (upd H1 q0 (.met f p)) (sr.ext s1.ex) mq (pf.step s1) _ fun u y G2 μ2 H2 ⟨ds, hy, h2⟩ st2 m2 ry => ?_
  subst hy
  obtain ⟨a, us, rfl, hsq, rs⟩ := rep_tup ry
  refine ⟨a, us, rfl, Ext.sqT m2.sub hsq, st2.keep q0 _ (m1.free hq0).2 upd_same, ?_⟩
  exact spF_at (.cons (show Rep X.K G2 (V.ref p) (rv p) from rfl) rs) m2 h2 (po.step (s1.trans st2)) (pf.step (s1.trans st2))
/-- o.f, a property -/
theorem d_prop {q0 : Addr} {fd : FuncData} {ps : List Str} (c : Cls X.K C) (hp : PropOf X.K C m q0 f) (Fo : FnOk X.prog X.w X.K X.mg X.base CX0 lv' f fd ps (spF X.K fs)) (hr : Room n X.A) (hle : lv' + 1 ≤ n) (hb : Binds X.K fd ps [])
    (h : dE X E F o ρ μ fun x μ1 => ∃ p gs, x = rv p ∧ μ1 p = some (.ins C gs) ∧ fs [rv p] μ1 k F0) (hab : attributeBase o m X.env (eval o X.env) = eval o X.env := by rfl) :
    dE X E F (.Attribute o m pos) ρ μ k := fun σ G H sr mm pf Q po => by
  refine w_pe (pe_prop (E := C8.E0) pe_w c hp Fo (hr.mono hle) hb .nil (fun _ _ _ _ _ _ _ h => h.elim) hab) ?_
  refine h σ G H sr mm pf _ fun v x G1 μ1 H1 ⟨p, gs, hx', hp, q⟩ st m1 rx => ?_
  subst hx'
  obtain rfl : v = V.ref p := rx
  obtain ⟨_, dx, vs, e1, pr⟩ := m1.obj p _ hp
  exact ⟨p, dx, vs, rfl, e1, spF_at (.cons (show Rep X.K G1 (V.ref p) (rv p) from rfl) .nil) m1 q (po.step st) PostF.none⟩
theorem made_ok {K : PySem.W.Frag} {G H : Hp} {x dx : Addr} (mm : MOk K G μ H) (hx : H x = none) (hd : H dx = none) (ne : dx ≠ x) : Stp G μ H G (mset μ x (.ins C [])) (upd (upd H dx (.own x)) x (.ins C dx [])) ∧ MOk K G (mset μ x (.ins C [])) (upd (upd H dx (.own x)) x (.ins C dx [])) := by
  have m1 := mm.out (o := .own x) hd
  have s1 : Stp G μ H G μ (upd H dx (.own x)) := Stp.out hd
  have hx1 : upd H dx (.own x) x = none := by rw [upd_ne (Ne.symm ne)]; exact hx
  exact ⟨s1.trans (Stp.put (.inl hx1)), m1.put (.inl hx1) ⟨dx, [], upd_same, .nil⟩⟩
/-- C(e, ..), C's name a global -/
theorem d_make {x : Str} (c : C8.Mak X.prog X.w X.K X.mg X.base lv' x C (spF X.K fs) []) (hr : Room n X.A) (hle : lv' + 1 ≤ n) (hg : Gl X x)
    (h : dA X E F (e :: rs) ρ μ fun as μ1 => ∀ p, μ1 p = none → fs (rv p :: as) (mset μ1 p (.ins C [])) (fun v μ2 => v = nv ∧ k (rv p) μ2) F0)
    (hdb : (x == ("__debug__" : Str)) = false := by decide) (he : starEach (e :: rs) X.env = (false, eval e X.env) :: starEach rs X.env := by rfl) (hpl : (backTo pos (starEach rs X.env)).any (·.1) = false := by rfl) :
    dE X E F (.Call (.Name x p2) (e :: rs) [] pos) ρ μ k := fun σ G H sr mm pf Q po => by
  refine w_pe (C8.pe_mk c hr hle hg pa_w hdb he hpl) ?_
  refine h σ G H sr mm pf _ fun vs as G1 μ1 H1 h1 st m1 rs => ?_
  intro x0 dx hx hd ne
  obtain ⟨s2, m2⟩ := made_ok (C := C) m1 hx hd ne
  rw [List.append_nil]
  exact spF_at (.cons (show Rep X.K G1 (V.ref x0) (rv x0) from rfl) rs) m2 (h1 x0 (m1.free hx).2) (fun v a G3 μ3 H3 ⟨ea, hk⟩ s3 m3 rv3 => by subst ea; exact ⟨rep_non rv3, po _ _ G3 μ3 H3 hk ((st.trans s2).trans s3) m3 rfl⟩) PostF.none
/-- x(e, ..), the local x holds the class at C -/
theorem pe_makeL {i k0 : Nat} {fi : Addr} {fd : FuncData} {ps : List Str} {sp : Sp} {dvs : List V} {ds : List Value} {CX : CXT} {E0 : XK} {t : TA} {x : Str} (M : Mk X.K C fi) (Fo : FnOk X.prog X.w X.K X.mg X.base CX k0 fi fd ps sp) (hr : Room (k0 + 1) X.A) (hN : X.N[i]? = some x) (hv : Vis X.env.scope x) (hb : Binds X.K fd ps ds) (hd : Vals dvs ds) (hx : Passes CX X E0)
    (ha : PA X (e :: rs) t) (hdb : (x == ("__debug__" : Str)) = false := by decide) (hcd : (x == ("__classdict__" : Str)) = false := by decide) (he : starEach (e :: rs) X.env = (false, eval e X.env) :: starEach rs X.env := by rfl) (hpl : (backTo pos (starEach rs X.env)).any (·.1) = false := by rfl) :
    PE X (.Call (.Name x p2) (e :: rs) [] pos) (fun σ H Q => σ[i]? = some (some (.ref C)) ∧ tMake C sp dvs E0 t σ H Q) := by
  refine ⟨fun pins s σ H Q I ⟨hs, h⟩ => ?_⟩
  refine wpAny_Call_Name_kw (thn ((pe_var (pos := p2) hN hv hdb hcd).run pins s σ H (fun v H1 => v = .ref C ∧ H1 = H) I ⟨.ref C, hs, rfl, rfl⟩) fun u s1 ⟨v, H1, I1, r1, q1, q2⟩ => ?_)
  subst q1 q2
  cases r1
  refine PySem.W.callWith_K (h₀ := X.base) I.ok.mod.kin M.kp (thn (ha.run pos pins s1 σ _ _ I1 h) fun us s2 ⟨vs, H2, I2, r, q⟩ => ⟨I2.kIn, ?_⟩) he hpl
  exact run_make M Fo hr hb hd hx I2 r q
theorem d_makeL {i : Nat} {x : Str} {xq : Str} (c : C8.Mak X.prog X.w X.K X.mg X.base lv' xq C (spF X.K fs) []) (hr : Room n X.A) (hle : lv' + 1 ≤ n) (hρ : ρ[i]? = some (some (rv C)))
    (h : dA X E F (e :: rs) ρ μ fun as μ1 => ∀ p, μ1 p = none → fs (rv p :: as) (mset μ1 p (.ins C [])) (fun v μ2 => v = nv ∧ k (rv p) μ2) F0)
    (hN : X.N[i]? = some x := by rfl) (hv : X.env.scope.names.lookup x = some .local := by rfl) (hdb : (x == ("__debug__" : Str)) = false := by decide) (hcd : (x == ("__classdict__" : Str)) = false := by decide)
    (he : starEach (e :: rs) X.env = (false, eval e X.env) :: starEach rs X.env := by rfl) (hpl : (backTo pos (starEach rs X.env)).any (·.1) = false := by rfl) :
    dE X E F (.Call (.Name x p2) (e :: rs) [] pos) ρ μ k := fun σ G H sr mm pf Q po => by
  obtain ⟨fi, fd, ps, ds, M, Fo, hm, b, d⟩ := c.ex
  refine w_pe (pe_makeL (E0 := C8.E0) M Fo (hr.mono hle) hN (.inl hv) b d pass0 pa_w hdb hcd he hpl) ?_
  obtain ⟨v, hv0, rv0⟩ := sr.get i _ hρ
  obtain rfl : v = V.ref C := rv0
  refine ⟨hv0, ?_⟩
  refine h σ G H sr mm pf _ fun vs as G1 μ1 H1 h1 st m1 rs => ?_
  intro x0 dx hx hd ne
  obtain ⟨s2, m2⟩ := made_ok (C := C) m1 hx hd ne
  rw [List.append_nil]
  exact spF_at (.cons (show Rep X.K G1 (V.ref x0) (rv x0) from rfl) rs) m2 (h1 x0 (m1.free hx).2) (fun v a G3 μ3 H3 ⟨ea, hk⟩ s3 m3 rv3 => by subst ea; exact ⟨rep_non rv3, po _ _ G3 μ3 H3 hk ((st.trans s2).trans s3) m3 rfl⟩) PostF.none
/-- C.m(e, ..), a classmethod -/
theorem d_cmeth {pl : Sem Bool} {mc : Value} {q0 : Addr} (r : ClX.CRead X.K C mc) (c : ClX.CMet X.K C mc m q0 f) (Fo : FnR X.prog X.w X.K X.mg X.base CX0 lv' f (spF X.K fs)) (hr : Room n X.A) (hle : lv' ≤ n)
    (h : dE X E F o ρ μ fun x μ1 => x = rv C ∧ dA X E F (e :: rs) ρ μ1 fun as μ2 => fs (rv C :: as) μ2 k F0)
    (hst : starEach (e :: rs) X.env = (false, eval e X.env) :: starEach rs X.env := by rfl) (hpl : (backTo pos (starEach rs X.env)).any (·.1) = false := by rfl)
    (ht : eval (.Call (.Attribute o m apz) (e :: rs) [] pos) X.env = (do
      let ob ← eval o X.env
      standAt apz.atName
      let (f, fst0) ← holding [ob] (getMethod ob m pl)
      callWith pos f fst0 (backTo pos (starEach (e :: rs) X.env)) (backToKw pos (keywordEach [] X.env))) := by rfl) :
    dE X E F (.Call (.Attribute o m apz) (e :: rs) [] pos) ρ μ k := fun σ G H sr mm pf Q po => by
  refine w_pe (ClX.pe_cmeth (pl := pl) (E := C8.E0) pe_w r c Fo (hr.mono hle) pass0 pa_w hst hpl ht) ?_
  refine h σ G H sr mm pf _ fun v x G1 μ1 H1 ⟨hx', q⟩ st m1 rx => ?_
  subst hx'
  obtain rfl : v = V.ref C := rx
  refine ⟨rfl, ?_⟩
  refine q σ G1 H1 (sr.ext st.ex) m1 (pf.step st) _ fun us as G2 μ2 H2 h2 st2 m2 rs => ?_
  exact spF_at (.cons (show Rep X.K G2 (V.ref C) (rv C) from rfl) rs) m2 h2 (po.step (st.trans st2)) PostF.none
end
end K87
end

section
set_option Elab.async false
set_option linter.all false
set_option maxRecDepth 100000
set_option maxHeartbeats 1100000
set_option autoImplicit false
/-! len, ==, isinstance of instances of an own class. -/
namespace K87
open L2 PySem PySem.Spec PyProof.Rows
section
variable {X : Cx} {E : XK} {F : KF} {ρ : Env'} {μ : Mu} {k : KV'} {a b e o : Expr} {pos p1 p2 p3 : Pos} {lv' n : Nat} {fs : FS} {C f : Addr} {fd : FuncData}
/-- len(x), x an instance with an own __len__ -/
theorem call_lenO {sp : Sp} {ps : List Str} (Fo : FnOk X.prog X.w X.K X.mg X.base CX0 lv' f fd ps sp) (hr : Room (lv' + 1) X.A) (hb : Binds X.K fd ps []) (hs : PySem.W.findIn X.K (.ref C) "__len__" = some (some (.ref f))) (hf : PySem.W.isFn X.K (.ref f) = true) :
    CallR X (.builtin "len") (fun xs H Q => ∃ p dx gs, xs = [.ref p] ∧ H p = some (.ins C dx gs) ∧ sp [.ref p] H (fun v H' => ∃ j : Nat, v = .int j ∧ j < 1000000 ∧ Q (.int j) H') C8.E0) := by
  (intro pins s σ H xs us Q I r h); obtain ⟨p, dx, gs, rfl, ea, hsp⟩ := h
  (obtain ⟨u, rfl, ru⟩ := vals1 r); cases (show u = Value.ref p from ru)
  (obtain ⟨mA, O, _⟩ := ins_get I.hok ea); obtain ⟨od, J, _⟩ := O.look
  obtain ⟨m, hF⟩ := I.fr
  refine PySem.W.len_K hF I.ok.mod.kin J hs hf ?_
  have hl := Fo.len _ _ _ _ hsp
  refine wpAny_call (codeAny_mono (Fo.run X.A.in1 X.stack s H ⟨[.ref p], []⟩ [.ref p] [.ref p] _ C8.E0 hr.in1 I.env0.in1 (by simpa using hb s [.ref p] I.kIn (by simpa using hl)) (.cons rfl .nil) hsp) fun r s' hq => ?_)
  cases r with
  | error er => exact (show False from hq).elim
  | ok fl =>
    cases fl with
    | ret w =>
      obtain ⟨z, H', I', rz, j, ez, hj, q⟩ := I.after hq
      subst ez
      obtain ⟨t, rfl⟩ := (show ∃ t, w = Value.int (j : Int) t from rz)
      exact ⟨⟨by omega, by omega⟩, .int j, H', I'.tok _, ⟨_, rfl⟩, q⟩
    | next => exact False.elim hq
    | brk => exact False.elim hq
    | cont => exact False.elim hq
theorem d_lenO {ps : List Str} (Fo : FnOk X.prog X.w X.K X.mg X.base CX0 lv' f fd ps (spF X.K fs)) (hr : Room n X.A) (hle : lv' + 1 ≤ n) (hb : Binds X.K fd ps []) (hs : PySem.W.findIn X.K (.ref C) "__len__" = some (some (.ref f))) (hf : PySem.W.isFn X.K (.ref f) = true) (hg : Gl X "len") (hm : X.mg "len" = none)
    (h : dE X E F a ρ μ fun y μ1 => ∃ p gs, y = rv p ∧ μ1 p = some (.ins C gs) ∧ fs [rv p] μ1 (fun v μ2 => ∃ j : Nat, v = iv j ∧ j < 1000000 ∧ k (iv j) μ2) F0)
    (hs1 : starEach [a] X.env = (false, eval a X.env) :: starEach [] X.env := by rfl) (hpl : (backTo pos (starEach [] X.env)).any (·.1) = false := by rfl) :
    dE X E F (.Call (.Name "len" p1) [a] [] pos) ρ μ k := fun σ G H sr mm pf Q po => by
  refine w_pe (pe_callB (call_lenO Fo (hr.mono hle) hb hs hf) hg hm (by decide +kernel) (pa_cons pe_w pa_nil hs1) (by decide) (by decide) hs1 hpl) ?_
  refine h σ G H sr mm pf _ fun v x G1 μ1 H1 ⟨p, gs, hx', hp, q⟩ st m1 rx => ?_
  subst hx'
  obtain rfl : v = V.ref p := rx
  obtain ⟨_, dx, vs, e1, pr⟩ := m1.obj p _ hp
  refine ⟨p, dx, vs, rfl, e1, spF_at (.cons (show Rep X.K G1 (V.ref p) (rv p) from rfl) .nil) m1 q (fun w a G3 μ3 H3 ⟨j, ea, hj, hk⟩ s3 m3 r3 => ?_) PostF.none⟩
  subst ea
  exact ⟨j, rep_int r3, hj, po _ _ G3 μ3 H3 hk (st.trans s3) m3 (ri _)⟩
/-- x == y by an own __eq__ -/
theorem op_eqO {sp : Sp} {ps : List Str} (Fo : FnOk X.prog X.w X.K X.mg X.base CX0 lv' f fd ps sp) (hr : Room lv' X.A) (hb : Binds X.K fd ps []) (hs : PySem.W.findIn X.K (.ref C) "__eq__" = some (some (.ref f))) (hf : PySem.W.isFn X.K (.ref f) = true) :
    OpR X (compareOp .Eq) (fun x y H Q => ∃ p q dx dy gs hs, x = .ref p ∧ y = .ref q ∧ H p = some (.ins C dx gs) ∧ H q = some (.ins C dy hs) ∧ sp [.ref p, .ref q] H (fun v H' => ∃ t, v = .bl t ∧ Q (.bl t) H') C8.E0) := by
  intro pins s σ H x y u v Q I rx ry h
  obtain ⟨p, q, dx, dy, gs, hs', rfl, rfl, ha, hb', hsp⟩ := h
  cases (show u = Value.ref p from rx)
  cases (show v = Value.ref q from ry)
  show wpAny (model X.prog X.w) X.A (richCompare .Eq (.ref p) (.ref q)) (EP X pins σ Q) X.xe s
  (obtain ⟨mA, J, _⟩ := ins_get I.hok ha); obtain ⟨mB, J', _⟩ := ins_get I.hok hb'
  obtain ⟨od, J, _⟩ := J.look
  (obtain ⟨od', J', _⟩ := J'.look); obtain ⟨m, hF⟩ := I.fr
  refine PySem.W.cmp_K (op := .Eq) (tb := .ref C) hr.units0 hF I.ok.mod.kin J J'.type (by simp [PySem.W.notFirst]) hs hf ?_
  have hl := Fo.len _ _ _ _ hsp
  refine wpAny_call (codeAny_mono (Fo.run X.A X.stack s H ⟨[.ref p, .ref q], []⟩ [.ref p, .ref q] [.ref p, .ref q] _ C8.E0 hr I.env0 (by simpa using hb s [.ref p, .ref q] I.kIn (by simpa using hl)) (.cons rfl (.cons rfl .nil)) hsp) fun r s' hq => ?_)
  cases r with
  | error er => exact (show False from hq).elim
  | ok fl =>
    cases fl with
    | ret w =>
      obtain ⟨z, H', I', rz, t, ez, q⟩ := I.after hq
      subst ez
      cases (show w = Value.bool t from rz)
      exact ⟨.bl t, H', I', rfl, q⟩
    | next => exact False.elim hq
    | brk => exact False.elim hq
    | cont => exact False.elim hq
theorem dr_eqOwn {sp : Sp} {x y : AV} (h : ∃ p q gs hs, x = rv p ∧ y = rv q ∧ μ p = some (.ins C gs) ∧ μ q = some (.ins C hs) ∧ fs [rv p, rv q] μ (fun v μ2 => ∃ t, v = bv t ∧ k (bv t) μ2) F0) {K : PySem.W.Frag} :
    dR K (fun x y H Q => ∃ p q dx dy gs hs, x = .ref p ∧ y = .ref q ∧ H p = some (.ins C dx gs) ∧ H q = some (.ins C dy hs) ∧ spF K fs [.ref p, .ref q] H (fun v H' => ∃ t, v = .bl t ∧ Q (.bl t) H') C8.E0) x y μ k := fun v u G H r1 r2 mm Q po => by
  obtain ⟨p, q, gs, hs, rfl, rfl, hp, hq, hf⟩ := h
  obtain rfl : v = V.ref p := r1
  obtain rfl : u = V.ref q := r2
  obtain ⟨_, dx, vs, e1, _⟩ := mm.obj p _ hp
  obtain ⟨_, dy, us, e2, _⟩ := mm.obj q _ hq
  refine ⟨p, q, dx, dy, vs, us, rfl, rfl, e1, e2, spF_at (.cons (show Rep K G (V.ref p) (rv p) from rfl) (.cons (show Rep K G (V.ref q) (rv q) from rfl) .nil)) mm hf (fun w a G3 μ3 H3 ⟨t, ea, hk⟩ s3 m3 r3 => ?_) PostF.none⟩
  subst ea
  exact ⟨t, rep_bl r3, po _ _ G3 μ3 H3 hk s3 m3 (rb _)⟩
/-- what isinstance asks of the class -/
structure IsiC (K : PySem.W.Frag) (C : Addr) : Prop where
  cl : Cls K C
  ha : (PySem.W.findIn K (.ref C) "__class__") = some (some (.builtin "object.__class__"))
  hn : (PySem.W.specialIn K (.builtin "object.__class__") "__get__") = some (some (.builtin "getset_descriptor.__get__"))
  htk : (PySem.W.takesIn K (.builtin "object.__class__")) = some true
  hm : (PySem.W.mroIn K C (.type "object")) = some true
/-- isinstance(e, C), e an instance of C -/
theorem d_isiO {x : Str} (c : IsiC X.K C) (hg : Gl X "isinstance") (hm : X.mg "isinstance" = none) (hgx : Gl X x) (hmx : X.mg x = some (.ref C))
    (h : dE X E F a ρ μ fun y μ1 => ∃ p gs, y = rv p ∧ μ1 p = some (.ins C gs) ∧ k (bv true) μ1)
    (hdx : (x == ("__debug__" : Str)) = false := by decide) (hs1 : starEach [a, .Name x p2] X.env = (false, eval a X.env) :: starEach [.Name x p2] X.env := by rfl) (hs2 : starEach [.Name x p2] X.env = (false, eval (.Name x p2) X.env) :: starEach [] X.env := by rfl)
    (hpl : (backTo pos (starEach [.Name x p2] X.env)).any (·.1) = false := by rfl) :
    dE X E F (.Call (.Name "isinstance" p1) [a, .Name x p2] [] pos) ρ μ k := fun σ G H sr mm pf Q po => by
  refine w_pe (pe_callB call_isi hg hm (by decide +kernel) (pa_cons pe_w (pa_cons (pe_glob (v := .ref C) hgx hmx rfl hdx) pa_nil hs2) hs1) (by decide) (by decide) hs1 hpl) ?_
  refine h σ G H sr mm pf _ fun v y G1 μ1 H1 ⟨p, gs, hy, hp, hk⟩ st m1 r => ?_
  subst hy
  obtain rfl : v = V.ref p := r
  obtain ⟨_, dx, vs, e1, _⟩ := m1.obj p _ hp
  exact ⟨.ref p, .ref C, .ref C, .ref C, true, rfl, .own C, .base (.ins e1 c.cl c.ha c.hn c.htk c.hm), by unfold PySem.W.kitOne; rw [if_pos (beq_self_eq_true _)], (po.step st).now hk m1 (rb _)⟩
end
end K87
end

section
set_option Elab.async false
set_option linter.all false
set_option maxRecDepth 100000
set_option maxHeartbeats 1100000
set_option autoImplicit false
/-! Promises of methods, by their bodies. -/
namespace K87
open PySem PySem.Spec PyProof.Rows L2 K87M
theorem reps_split {K : PySem.W.Frag} {G : Hp} : ∀ {as bs : List AV} {vs : List V}, Reps K G vs (as ++ bs) → ∃ v1 v2, vs = v1 ++ v2 ∧ Reps K G v1 as ∧ Reps K G v2 bs
  | [], _, vs, h => ⟨[], vs, rfl, .nil, h⟩
  | a :: as, bs, _, .cons r t => by
    obtain ⟨v1, v2, e, r1, r2⟩ := reps_split (as := as) (bs := bs) t
    exact ⟨_ :: v1, v2, by rw [e]; rfl, .cons r r1, r2⟩
def starS (n : Nat) (fb : FS) : FS := fun as μ k F => ∃ ws ds, as = ws ++ List.map .d ds ∧ ws.length = n ∧ ds.length ≤ 1000000 ∧ fb (ws ++ [tv ds]) μ k F
section
variable {base : Heap} {P : Program} {w : World} {K : PySem.W.Frag} {mg : Str → Option Value}
theorem fnD {x qual : Str} {st : Stmt} {f : Addr} {fd : FuncData} {N ps : List Str} {lvl : Nat} {fs : FS} (Fu : C8.Fun K x qual st f fd) (S : FnScope N ps (C8.fnScope st)) (len : ∀ as μ k F, fs as μ k F → as.length = ps.length)
    (hbody : ∀ (cdv : Value) (A : Around) (outer : List Env) (s : Shared) (H : Hp) (E : XK), Room lvl (A.deeper (PyProof.Rows.envOfC qual (C8.fnScope st) s.heap.objs.size f cdv)) → ∀ as μ k F, fs as μ k F →
      dSs (XB P w K mg base N qual st f cdv A outer s H E) E0 F0 (C8.fnBody st) (startR N as) μ { nx := fun _ μ' => k nv μ', rt := k }) : FnOk P w K mg base CX0 (lvl + 1) f fd ps (spF K fs) := by
  refine C8.fn0 Fu S (fun vs H Q E h => ?_) fun cdv A outer s H vs Q E hr h => ?_
  · obtain ⟨G, μ, as, k, F, r, m, h, _⟩ := h
    rw [Reps.len r]
    exact len as μ k F h
  · obtain ⟨G, μ, as, k, F, r, m, h, po, _⟩ := h
    refine ⟨_, pss_w, ?_⟩
    exact hbody cdv A outer s H E hr as μ k F h (L2.start N vs) G H (start_sr r) m PostF.none _ ⟨fun σ' ρ' G' μ' H' h1 s1 m1 _ => po .non nv G' μ' H' h1 s1 m1 Dp.non, po, fun _ _ _ _ _ h1 => h1.elim, fun _ _ _ _ _ h1 => h1.elim⟩
theorem bodyX {N : List Str} {qual : Str} {st : Stmt} {f : Addr} {cdv : Value} {A : Around} {outer : List Env} {s : Shared} {H : Hp} {vs : List V} {Q : VK} {E : XK} {fs : FS}
    (hbody : ∀ as μ k F, fs as μ k F → dSs (XC P w K mg base N qual st f cdv A outer s H E) E F (C8.fnBody st) (startR N as) μ { nx := fun _ μ' => k nv μ', rt := k }) (h : spF K fs vs H Q E) :
    ∃ t, PSs (XC P w K mg base N qual st f cdv A outer s H E) (C8.fnBody st) t ∧ t { nx := fun _ H' => Q .non H', rt := Q } (start N vs) H := by
  obtain ⟨G, μ, as, k, F, r, m, h, po, pf⟩ := h
  exact ⟨_, pss_w, hbody as μ k F h (L2.start N vs) G H (start_sr r) m pf _ ⟨fun σ' ρ' G' μ' H' h1 s1 m1 _ => po .non nv G' μ' H' h1 s1 m1 Dp.non, po, fun _ _ _ _ _ h1 => h1.elim, fun _ _ _ _ _ h1 => h1.elim⟩⟩
theorem fnXD {x qual : Str} {st : Stmt} {f : Addr} {fd : FuncData} {N ps : List Str} {lvl : Nat} {fs : FS} (Fu : C8.Fun K x qual st f fd) (b : Binds K fd ps []) (S : FnScope N ps (C8.fnScope st)) (len : ∀ as μ k F, fs as μ k F → as.length = ps.length)
    (hbody : ∀ (cdv : Value) (A : Around) (outer : List Env) (s : Shared) (H : Hp) (E : XK), Room lvl (A.deeper (PyProof.Rows.envOfC qual (C8.fnScope st) s.heap.objs.size f cdv)) → ∀ as μ k F, fs as μ k F →
      dSs (XC P w K mg base N qual st f cdv A outer s H E) E F (C8.fnBody st) (startR N as) μ { nx := fun _ μ' => k nv μ', rt := k }) : FnR P w K mg base (L2.CX P w) (lvl + 1) f (spF K fs) := by
  have Fo : FnOk P w K mg base (L2.CX P w) (lvl + 1) f fd ps (spF K fs) := fnX Fu S (fun vs H Q E h => by
    obtain ⟨G, μ, as, k, F, r, m, h, _⟩ := h
    rw [Reps.len r]
    exact len as μ k F h) fun cdv A outer s H vs Q E hr h => bodyX (fun as μ k F h => hbody cdv A outer s H E hr as μ k F h) h
  exact (Fo.raw b .nil).imp fun vs H Q E h => by rw [List.append_nil]; exact h
theorem fnRD {x qual : Str} {st : Stmt} {f : Addr} {fd : FuncData} {N ps : List Str} {lvl : Nat} {fs : FS} (Fu : C8.Fun K x qual st f fd) (b : Binds K fd ps []) (S : FnScope N ps (C8.fnScope st)) (len : ∀ as μ k F, fs as μ k F → as.length = ps.length)
    (hbody : ∀ (cdv : Value) (A : Around) (outer : List Env) (s : Shared) (H : Hp) (E : XK), Room lvl (A.deeper (PyProof.Rows.envOfC qual (C8.fnScope st) s.heap.objs.size f cdv)) → ∀ as μ k F, fs as μ k F →
      dSs (XB P w K mg base N qual st f cdv A outer s H E) E0 F0 (C8.fnBody st) (startR N as) μ { nx := fun _ μ' => k nv μ', rt := k }) : FnR P w K mg base CX0 (lvl + 1) f (spF K fs) :=
  ((fnD Fu S len hbody).raw b .nil).imp fun vs H Q E h => by rw [List.append_nil]; exact h
/-- def m(self, .., *pv) -/
theorem starD {x qual pv : Str} {st : Stmt} {f : Addr} {fd : FuncData} {N ps : List Str} {lvl : Nat} {fb : FS} (Fu : C8.Fun K x qual st f fd) (df : fd.defaults = .none) (S : FnScope N (ps ++ [pv]) (C8.fnScope st))
    (hb : ∀ (kV doc pm : Value) (an : Option Addr) (cdv ct : Value) (us rest : List Value), us.length = ps.length → bindArgs (PySem.W.fnOf x qual (C8.fnArgs st) (C8.fnBody st) (C8.fnScope st) .none kV doc pm an cdv ct) ⟨us ++ rest, []⟩ = (newTuple rest >>= fun t => pure (ps.zip us ++ [(pv, t)])))
    (hbody : ∀ (cdv : Value) (A : Around) (outer : List Env) (s : Shared) (H : Hp) (E : XK), Room lvl (A.deeper (PyProof.Rows.envOfC qual (C8.fnScope st) s.heap.objs.size f cdv)) → ∀ as μ k F, fb as μ k F →
      dSs (XC P w K mg base N qual st f cdv A outer s H E) E F (C8.fnBody st) (startR N as) μ { nx := fun _ μ' => k nv μ', rt := k }) : FnR P w K mg base (L2.CX P w) (lvl + 1) f (spF K (starS ps.length fb)) := by
  obtain ⟨oc, od, dV, kV, doc, pm, an, cdv, ct, osl, rfl, lk, hcd⟩ := Fu.ex
  obtain rfl : dV = .none := df
  refine FnR.imp (StX.fn_star (sp := spF K fb) lk hcd S StX.cxUp (hb kV doc pm an cdv ct) fun A outer s H vs Q E hr h => bodyX (fun as μ k F h => hbody cdv A outer s H E hr as μ k F h) h) fun vs H Q E ⟨G, μ, as, k, F, r, m, ⟨ws, ds, e, hl, hz, h⟩, po, pf⟩ => ?_
  subst e
  obtain ⟨v1, v2, rfl, r1, r2⟩ := reps_split r
  have l1 := Reps.len r1
  have l2 := Reps.len r2
  rw [List.length_map] at l2
  refine ⟨v1, v2, rfl, by omega, by rw [sizeLine_eq]; omega, fun p hp => ?_⟩
  have s1 : Stp G μ H (upd G p (.tup v2)) μ (upd H p (.tup v2)) := Stp.imm m hp
  exact ⟨upd G p (.tup v2), μ, ws ++ [tv ds], k, F, Reps.append (r1.ext s1.ex) (.cons (show Dp K _ _ _ from .tup (SqT.of upd_same) (reps_dpAll (Reps.ext s1.ex r2))) .nil), m.imm hp, h, po.step s1, pf.step s1⟩
end
end K87
end

section
set_option Elab.async false
set_option linter.all false
set_option maxRecDepth 100000
set_option maxHeartbeats 1100000
set_option autoImplicit false
/-! The class Session: its methods' promises. -/
namespace K87
open PySem PySem.Spec PyProof.Rows L2 K87M
def mth (i : Nat) : Stmt := (C8.clsBody (top 50)).getD i (.Pass ⟨0, 0, 0, 0⟩)
def pairD (x : Str × K87M.Step) : PyData := .tuple [.str x.1, stepD x.2]
def sesF (g h : List Int) (ps : List (Str × K87M.Step)) : List (Str × AV) := [("first", .d (stk g)), ("present", .d (stk h)), ("pairs", tv (ps.map pairD)), ("limit", nv)]
abbrev ses (C : Addr) (g h : List Int) (ps : List (Str × K87M.Step)) : RO := .ins C (sesF g h ps)
theorem putA_lt {f : Str} {a : AV} : ∀ {fs : List (Str × AV)} {n : Nat}, fs.length < n → (putA f a fs).length < n + 1
  | [], n, h => by show 1 < n + 1; exact Nat.succ_lt_succ h
  | (g, u) :: r, n, h => by
    unfold putA
    split
    · exact Nat.lt_succ_of_lt h
    · cases n with
      | zero => exact absurd h (Nat.not_lt_zero _)
      | succ n => exact Nat.succ_lt_succ (putA_lt (Nat.lt_of_succ_lt_succ h))
structure SesC (K : PySem.W.Frag) (C : Addr) : Prop where
  cls : Cls K C
  nFirst : NoAttr K C "first"
  nPresent : NoAttr K C "present"
  nPairs : NoAttr K C "pairs"
  nLimit : NoAttr K C "limit"
section
variable {P : Program} {w : World} {K : PySem.W.Frag} {mg : Str → Option Value} {base : Heap} {f : Addr} {fd : FuncData} {C : Addr}
/-! ### __init__ -/
def fsInit (C : Addr) : FS := fun as μ k _ => ∃ (p : Addr) (g : List Int), Dec g ∧ g.length < 100000 ∧ as = [rv p, .d (stk g)] ∧ μ p = some (.ins C []) ∧ k nv (mset μ p (ses C g g []))
theorem sc_init : FnScope ["self", "stack"] ["self", "stack"] (C8.fnScope (mth 0)) := C8.fnScope_by (by decide +kernel)
theorem fn_init (Fu : C8.Fun K "__init__" "Session.__init__" (mth 0) f fd) (S : SesC K C) (c_check_stack : C8.Cal P w K mg base 5 "check_stack" (spF K fsChkStack) []) : FnOk P w K mg base CX0 6 f fd ["self", "stack"] (spF K (fsInit C)) := by
  refine fnD Fu sc_init (fun as μ k F ⟨_, _, _, _, h, _⟩ => by rw [h]; rfl) fun cdv A outer s H E hr as μ k F ⟨p, g, dg, hl, h, hp, hk⟩ => ?_
  subst h
  have hrl := runs_len g
  refine s_cons ?_
  refine s_expr ?_
  refine d_call c_check_stack hr (by decide) rfl ?_
  refine d_cons ?_
  refine d_var 1 rfl ?_ -- stack
  refine d_nil ?_
  refine ⟨_, ⟨runs g, by omega, run_pos, dec_runs dg, rfl, rfl⟩, ?_⟩ -- check_stack
  refine s_cons ?_
  refine s_fld ?_
  refine d_var 1 rfl ?_ -- stack
  refine d_var 0 rfl ?_
  refine ⟨p, C, [], rfl, hp, S.cls, S.nFirst, by decide, ?_⟩
  refine s_cons ?_
  refine s_fld ?_
  refine d_var 1 rfl ?_ -- stack
  refine d_var 0 rfl ?_
  refine ⟨p, C, _, rfl, mset_same, S.cls, S.nPresent, putA_lt (n := 999) (by decide), ?_⟩
  rw [mset_mset]
  refine s_cons ?_
  refine s_fld ?_
  refine d_tup ?_
  refine d_nil ?_
  refine ⟨[], rfl, by simp, ?_⟩
  refine d_var 0 rfl ?_
  refine ⟨p, C, _, rfl, mset_same, S.cls, S.nPairs, putA_lt (n := 999) (putA_lt (n := 998) (by decide)), ?_⟩
  rw [mset_mset]
  refine s_one ?_
  refine s_fld ?_
  refine d_non ?_
  refine d_var 0 rfl ?_
  refine ⟨p, C, _, rfl, mset_same, S.cls, S.nLimit, putA_lt (n := 999) (putA_lt (n := 998) (putA_lt (n := 997) (by decide))), ?_⟩
  rw [mset_mset]
  exact hk
/-! ### __len__ -/
def fsLen (C : Addr) : FS := fun as μ k _ => ∃ (p : Addr) (g h : List Int) (ps : List (Str × K87M.Step)), as = [rv p] ∧ μ p = some (ses C g h ps) ∧ k (iv ps.length) μ
theorem sc_len : FnScope ["self"] ["self"] (C8.fnScope (mth 1)) := C8.fnScope_by (by decide +kernel)
theorem fn_len (Fu : C8.Fun K "__len__" "Session.__len__" (mth 1) f fd) (S : SesC K C) (B : Bl mg) : FnOk P w K mg base CX0 1 f fd ["self"] (spF K (fsLen C)) := by
  refine fnD Fu sc_len (fun as μ k F ⟨_, _, _, _, h, _⟩ => by rw [h]; rfl) fun cdv A outer s H E hr as μ k F ⟨p, g, h, ps, has, hp, hk⟩ => ?_
  subst has
  refine s_one ?_
  refine s_ret ?_
  refine d_len rfl B.len ?_
  refine d_fld ?_ -- .pairs
  refine d_var 0 rfl ?_ -- self
  refine ⟨p, C, _, _, rfl, hp, S.cls, S.nPairs, rfl, _, .tup _, ?_⟩
  rw [List.length_map, List.length_map]
  exact hk
/-! ### stack -/
def fsStack (C : Addr) : FS := fun as μ k _ => ∃ (p : Addr) (g h : List Int) (ps : List (Str × K87M.Step)), as = [rv p] ∧ μ p = some (ses C g h ps) ∧ k (.d (stk h)) μ
theorem sc_stack : FnScope ["self"] ["self"] (C8.fnScope (mth 5)) := C8.fnScope_by (by decide +kernel)
theorem fn_stack (Fu : C8.Fun K "stack" "Session.stack" (mth 5) f fd) (S : SesC K C) : FnOk P w K mg base CX0 1 f fd ["self"] (spF K (fsStack C)) := by
  refine fnD Fu sc_stack (fun as μ k F ⟨_, _, _, _, h, _⟩ => by rw [h]; rfl) fun cdv A outer s H E hr as μ k F ⟨p, g, h, ps, has, hp, hk⟩ => ?_
  subst has
  refine s_one ?_
  refine s_ret ?_
  refine d_fld ?_
  refine d_var 0 rfl ?_ -- self
  exact ⟨p, C, _, _, rfl, hp, S.cls, S.nPresent, rfl, hk⟩
/-! ### log -/
def fsLog (C : Addr) : FS := fun as μ k _ => ∃ (p : Addr) (g h : List Int) (ps : List (Str × K87M.Step)), as = [rv p] ∧ μ p = some (ses C g h ps) ∧ ps.length ≤ 1000000 ∧ ∀ q, μ q = none → k (rv q) (mset μ q (.lst ((ps.map pairD).map .d)))
theorem sc_log : FnScope ["self"] ["self"] (C8.fnScope (mth 6)) := C8.fnScope_by (by decide +kernel)
theorem fn_log (Fu : C8.Fun K "log" "Session.log" (mth 6) f fd) (S : SesC K C) (B : Bl mg) : FnOk P w K mg base CX0 1 f fd ["self"] (spF K (fsLog C)) := by
  refine fnD Fu sc_log (fun as μ k F ⟨_, _, _, _, h, _⟩ => by rw [h]; rfl) fun cdv A outer s H E hr as μ k F ⟨p, g, h, ps, has, hp, hl, hk⟩ => ?_
  subst has
  refine s_one ?_
  refine s_ret ?_
  refine d_list rfl B.list ?_
  refine d_fld ?_
  refine d_var 0 rfl ?_ -- self
  refine ⟨p, C, _, _, rfl, hp, S.cls, S.nPairs, rfl, _, .tup _, ?_⟩
  exact .inr fun q hq => hk q hq
/-! ### steps -/
def stepsD (ps : List (Str × K87M.Step)) : List PyData := ps.map fun x => stepD x.2
def fsSteps (C : Addr) : FS := fun as μ k _ => ∃ (p : Addr) (g h : List Int) (ps : List (Str × K87M.Step)), as = [rv p] ∧ μ p = some (ses C g h ps) ∧ ps.length < 1000000 ∧ k (lv (stepsD ps)) μ
theorem sc_steps : FnScope ["self", "user", "step"] ["self"] (C8.fnScope (mth 7)) := C8.fnScope_by (by decide +kernel)
theorem fn_steps (Fu : C8.Fun K "steps" "Session.steps" (mth 7) f fd) (S : SesC K C) (B : Bl mg) : FnOk P w K mg base CX0 1 f fd ["self"] (spF K (fsSteps C)) := by
  refine fnD Fu sc_steps (fun as μ k F ⟨_, _, _, _, h, _⟩ => by rw [h]; rfl) fun cdv A outer s H E hr as μ k F ⟨p, g, h, ps, has, hp, hl, hk⟩ => ?_
  subst has
  refine s_one ?_
  refine s_ret ?_
  refine d_lc2 1 2 [("user", 1), ("step", 2)] rfl sc_steps.nd (blkOk_by (N := ["self", "user", "step"]) (sc := C8.fnScope (mth 7)) (by decide +kernel)) ?_
  refine i_tup ?_
  refine d_fld ?_
  refine d_var 0 rfl ?_ -- self
  refine ⟨p, C, _, _, rfl, hp, S.cls, S.nPairs, rfl, _, rfl, lcF_lcW ⟨trivial, _, ps, fun a => .d (pairD a), fun a => some (stepD a.2), by rw [List.map_map]; rfl, hl, fun a ha => ?_, ?_⟩⟩
  · refine ⟨_, rfl, ?_⟩
    refine ⟨rfl, fun h => absurd h (by decide), fun _ => ?_⟩
    intro s H0 C cl fp
    refine d_var 2 rfl ?_ -- step
    exact ⟨rfl, _, rfl, rfl⟩
  · rw [List.filterMap_eq_map']
    exact hk
end
end K87
end

section
set_option Elab.async false
set_option linter.all false
set_option maxRecDepth 100000
set_option maxHeartbeats 1100000
set_option autoImplicit false
namespace K87
open PySem PySem.Spec PyProof.Rows L2 K87M
def Usr (u : Str) : Prop := UserOk u ∧ PyData.canLay0 (.str u) = true
theorem usr_ann : Usr "ann" := ⟨user_ann, by decide +kernel⟩
theorem usr_b : Usr "b" := ⟨user_b, by decide +kernel⟩
theorem usr_abc : Usr "abcdefgh" := ⟨user_abc, by decide +kernel⟩
def PsOk (ps : List (Str × K87M.Step)) : Prop := ∀ x ∈ ps, Usr x.1 ∧ x.2.Ok
theorem gd_pair (n : Nat) {x : Str × K87M.Step} (h : Usr x.1) : Gd (n + 2) (pairD x) := .tup _ _ fun y hy => by
  rcases (List.mem_cons.mp hy) with e | hy
  · subst e; exact .str _ _ h.2
  · rw [List.mem_singleton.mp hy]; exact gd_step n _
theorem gd_pairs (n : Nat) {ps : List (Str × K87M.Step)} (h : PsOk ps) : Gd (n + 3) (.tuple (ps.map pairD)) := .tup _ _ fun y hy => by
  obtain ⟨x, hx, e⟩ := List.mem_map.mp hy
  subst e; exact gd_pair n (h x hx).1
theorem gd_pairsL (n : Nat) {ps : List (Str × K87M.Step)} (h : PsOk ps) : Gd (n + 3) (.list (ps.map pairD)) := .lst _ _ fun y hy => by
  obtain ⟨x, hx, e⟩ := List.mem_map.mp hy
  subst e; exact gd_pair n (h x hx).1
abbrev stepsOf (ps : List (Str × K87M.Step)) : List K87M.Step := ps.map (·.2)
theorem stepsD_of (ps : List (Str × K87M.Step)) : stepsD ps = (stepsOf ps).map stepD := by unfold stepsD; rw [List.map_map]; rfl
theorem psOk_steps {ps : List (Str × K87M.Step)} (h : PsOk ps) : ∀ s ∈ stepsOf ps, s.Ok := fun s hs => by
  obtain ⟨x, hx, e⟩ := List.mem_map.mp hs
  subst e; exact (h x hx).2
section
variable {P : Program} {w : World} {K : PySem.W.Frag} {mg : Str → Option Value} {base : Heap} {f : Addr} {fd : FuncData} {C SFa SFi : Addr}
/-! ### __eq__ -/
def fsEq (C : Addr) : FS := fun as μ k _ => ∃ (p q : Addr) (g h h' : List Int) (ps : List (Str × K87M.Step)), PsOk ps ∧ as = [rv p, rv q] ∧ μ p = some (ses C g h ps) ∧ μ q = some (ses C g h' ps) ∧ k (bv true) μ
theorem sc_eq : FnScope ["self", "other"] ["self", "other"] (C8.fnScope (mth 2)) := C8.fnScope_by (by decide +kernel)
theorem fn_eq (Fu : C8.Fun K "__eq__" "Session.__eq__" (mth 2) f fd) (S : SesC K C) (B : Bl mg) (I : IsiC K C) (hm : mg "Session" = some (.ref C)) : FnOk P w K mg base CX0 2 f fd ["self", "other"] (spF K (fsEq C)) := by
  refine fnD Fu sc_eq (fun as μ k F ⟨_, _, _, _, _, _, _, h, _⟩ => by rw [h]; rfl) fun cdv A outer s H E hr as μ k F ⟨p, q, g, h, h', ps, ok, has, hp, hq, hk⟩ => ?_
  subst has
  refine s_one ?_
  refine s_ret ?_
  refine d_and ?_
  refine d_isiO I rfl B.isinstance rfl hm ?_
  refine d_var 1 rfl ?_ -- other
  refine ⟨q, _, rfl, hq, ?_⟩
  refine ⟨_, rfl, fun h => ?_, fun h => absurd h (by decide)⟩
  refine d_and ?_
  refine d_cmp (op_eqD hr.units) rfl ?_
  refine d_fld ?_ -- .first
  refine d_var 0 rfl ?_ -- self
  refine ⟨p, C, _, _, rfl, hp, S.cls, S.nFirst, rfl, ?_⟩
  refine d_fld ?_ -- .first
  refine d_var 1 rfl ?_ -- other
  refine ⟨q, C, _, _, rfl, hq, S.cls, S.nFirst, rfl, ?_⟩
  refine dr_eqG ⟨_, _, 2, 2, rfl, rfl, gd_rns 0 _, gd_rns 0 _, by decide, by decide, fun h => ?_, fun h => absurd rfl h⟩
  refine ⟨_, rfl, fun h => ?_, fun h => absurd h (by decide)⟩
  refine d_and ?_
  refine d_cmp (op_eqD hr.units) rfl ?_
  refine d_fld ?_ -- .pairs
  refine d_var 0 rfl ?_ -- self
  refine ⟨p, C, _, _, rfl, hp, S.cls, S.nPairs, rfl, ?_⟩
  refine d_fld ?_ -- .pairs
  refine d_var 1 rfl ?_ -- other
  refine ⟨q, C, _, _, rfl, hq, S.cls, S.nPairs, rfl, ?_⟩
  refine dr_eqG ⟨_, _, 3, 3, rfl, rfl, gd_pairs 0 ok, gd_pairs 0 ok, by decide, by decide, fun h => ?_, fun h => absurd rfl h⟩
  refine ⟨_, rfl, fun h => ?_, fun h => absurd h (by decide)⟩
  refine d_one ?_
  refine d_cmp (op_eqD hr.units) rfl ?_
  refine d_fld ?_ -- .limit
  refine d_var 0 rfl ?_ -- self
  refine ⟨p, C, _, _, rfl, hp, S.cls, S.nLimit, rfl, ?_⟩
  refine d_fld ?_ -- .limit
  refine d_var 1 rfl ?_ -- other
  refine ⟨q, C, _, _, rfl, hq, S.cls, S.nLimit, rfl, ?_⟩
  exact dr_eqG ⟨_, _, 0, 0, rfl, rfl, .non 0, .non 0, by decide, by decide, fun h => hk, fun h => absurd rfl h⟩
/-! ### effect -/
def fsEff (C : Addr) : FS := fun as μ k _ => ∃ (p : Addr) (g h : List Int) (ps : List (Str × K87M.Step)), PsOk ps ∧ ps.length < 50000 ∧ total (stepsOf ps) < 50000 ∧ as = [rv p] ∧ μ p = some (ses C g h ps) ∧ k (.d (encE (effs (stepsOf ps)))) μ
theorem sc_effect : FnScope ["self"] ["self"] (C8.fnScope (mth 8)) := C8.fnScope_by (by decide +kernel)
theorem fn_effect (Fu : C8.Fun K "effect" "Session.effect" (mth 8) f fd) (c_effect_of : C8.Cal P w K mg base 5 "effect_of" (spF K fsEffOf) []) (c_steps : C8.Met P w K mg base 1 C "steps" (spF K (fsSteps C)) []) : FnOk P w K mg base CX0 6 f fd ["self"] (spF K (fsEff C)) := by
  refine fnD Fu sc_effect (fun as μ k F ⟨_, _, _, _, _, _, _, h, _⟩ => by rw [h]; rfl) fun cdv A outer s H E hr as μ k F ⟨p, g, h, ps, ok, hl, ht, has, hp, hk⟩ => ?_
  subst has
  refine s_one ?_
  refine s_ret ?_
  refine d_call c_effect_of hr (by decide) rfl ?_
  refine d_cons ?_
  refine d_meth0 c_steps hr (by decide) ?_
  refine d_var 0 rfl ?_
  refine ⟨p, _, rfl, hp, rfl, ⟨p, g, h, ps, rfl, hp, by omega, ?_⟩⟩
  refine d_nil ?_
  rw [stepsD_of]
  exact ⟨_, ⟨stepsOf ps, _, by rw [List.length_map]; exact hl, ht, psOk_steps ok, .lst _, rfl, rfl⟩, hk⟩
/-! ### what_if -/
def fbWhat (C SFa : Addr) : FS := fun as μ k F => ∃ (p : Addr) (g h : List Int) (ps : List (Str × K87M.Step)) (ss : List K87M.Step), Dec h ∧ h.length + total ss < 100000 ∧ (∀ s ∈ ss, s.Ok) ∧ as = [rv p, tv (ss.map stepD)] ∧ μ p = some (ses C g h ps) ∧
  (∀ h', runF h 0 ss = .inl h' → k (.d (stk h')) μ) ∧ ∀ i, runF h 0 ss = .inr i → F SFa "index" (iv (i : Int)) μ
theorem sc_what : FnScope ["self", "steps", "index", "step"] (([("self" : Str)] ++ [("steps" : Str)]) : List Str) (C8.fnScope (mth 9)) := C8.fnScope_by (by decide +kernel)
theorem fn_what (Fu : C8.Fun K "what_if" "Session.what_if" (mth 9) f fd) (df : fd.defaults = .none) (S : SesC K C) (B : Bl mg) (c_is_step : C8.Cal P w K mg base 3 "is_step" (spF K fsIsStep) []) (c_run : CalX P w K mg base 7 "run" (spF K (fsRun SFa))) : FnR P w K mg base (L2.CX P w) 8 f (spF K (starS 1 (fbWhat C SFa))) := by
  refine starD (ps := ["self"]) (pv := "steps") Fu df sc_what (fun kV doc pm an cdv ct => StX.bind_star1 (p1 := "self") (pv := "steps") (B := fun l => bindArgs (PySem.W.fnOf "what_if" "Session.what_if" (C8.fnArgs (mth 9)) (C8.fnBody (mth 9)) (C8.fnScope (mth 9)) .none kV doc pm an cdv ct) ⟨l, []⟩) (fun a => rfl) fun a r rs => rfl) fun cdv A outer s H E hr as μ k F ⟨p, g, h, ps, ss, dh, hl, ok, has, hp, hk, hF⟩ => ?_
  subst has
  refine s_cons ?_
  refine s_forL ownsC rfl ?_
  refine i_enumT rfl B.enumerate ?_
  refine d_var 1 rfl ?_ -- steps
  refine ⟨_, rfl, _, ss.zipIdx, fun p => tv [.int (p.2 : Int), stepD p.1], fun d ρ' μ' => μ' = μ ∧ ∃ x y, ρ' = [some (rv p), some (tv (ss.map stepD)), x, y], enAll_steps ss, ⟨rfl, none, none, rfl⟩, fun d r ρ μ e h => trivial, fun d a r ρ μ' e h => ?_, fun ρ μ' h => ?_⟩
  · obtain ⟨rfl, x, y, rfl⟩ := h
    refine g_tup rfl ⟨_, rfl, rfl, ?_⟩
    refine gs_cons (g_name 2 ?_ sc_what.nd)
    refine gs_cons (g_name 3 ?_ sc_what.nd)
    refine gs_nil ?_
    refine s_one ?_
    refine s_if ?_
    refine d_tnot ?_
    refine d_tval ?_
    refine d_call c_is_step hr (by decide) rfl ?_
    refine d_cons ?_
    refine d_var 3 rfl ?_ -- step
    refine d_nil ?_
    refine ⟨_, ⟨a.1, ok a.1 ?_, rfl, rfl⟩, _, rfl, fun h => absurd h (by decide), fun _ => ?_⟩ -- is_step
    · have : a ∈ ss.zipIdx := by rw [e]; simp
      exact (List.mem_zipIdx_iff_getElem?.mp this |> List.mem_of_getElem?)
    refine s_nil ?_
    exact ⟨rfl, _, _, rfl⟩
  · obtain ⟨rfl, x, y, rfl⟩ := h
    refine s_one ?_
    refine s_ret ?_
    refine d_callY c_run hr (by decide) rfl passC ?_
    refine d_cons ?_
    refine d_fld ?_
    refine d_var 0 rfl ?_ -- self
    refine ⟨p, C, _, _, rfl, hp, S.cls, S.nPresent, rfl, ?_⟩
    refine d_cons ?_
    refine d_var 1 rfl ?_ -- steps
    refine d_nil ?_
    exact ⟨h, ss, _, dh, hl, ok, .tup _, rfl, hk, hF⟩
end
end K87
end

section
set_option Elab.async false
set_option linter.all false
set_option maxRecDepth 100000
set_option maxHeartbeats 1100000
set_option autoImplicit false
namespace K87
open PySem PySem.Spec PyProof.Rows L2 K87M
/-- y = [.. for x, z in ..] -/
theorem s_setLc2 {X : Cx} {E : XK} {F : KF} {ρ : Env'} {μ : Mu} {scope : Scope} {iter elt : Expr} {ifs : List Expr} {pos : Pos} (i j l : Nat) (own : List (Str × Nat)) {N : DN} {x z y : Str} {p p2 p3 py spos : Pos} {n : Nat} (hc : X.calm = true) (hN : X.N.Nodup) (ok : BlkOk X.N X.env.scope scope own)
    (h : dI X E F (.Tuple [.Name x p, .Name z p2] n p3) iter ρ μ (LcW X scope (own.map (·.2)) (bind2 i j) ifs elt ρ fun a μ1 => N.nx (ρ.set l (some a)) μ1))
    (hsw : swapsWith (.ListComp elt [⟨.Tuple [.Name x p, .Name z p2] n p3, iter, ifs, 0⟩] scope pos) (some (.Name y py)) spos.line X.env = pure true) (ho : own.map (·.2) = [i, j] := by rfl) (hi : X.N[i]? = some x := by rfl) (hj : X.N[j]? = some z := by rfl)
    (hx : scope.names.lookup x = some .local := by rfl) (hz : scope.names.lookup z = some .local := by rfl) (hy : X.N[l]? = some y := by rfl) (hyl : X.env.scope.names.lookup y = some .local := by rfl) (hs : ∀ x, foldedSetIterable iter X.env x = pure x := by intro _; rfl) :
    dS X E F (.Assign [.Name y py] (.ListComp elt [⟨.Tuple [.Name x p, .Name z p2] n p3, iter, ifs, 0⟩] scope pos) spos) ρ μ N :=
  s_setLc l hc hN ok (bg2 i j hc hN hi hj hx hz) (by rw [ho]; exact bd_two i j) hsw h hy hyl hs
/-! ### the last step of a user -/
def places (ps : List (Str × K87M.Step)) (u : Str) : List Nat := ps.zipIdx.filterMap fun x => if x.1.1 = u then some x.2 else none
def dropAt (j : Nat) (ps : List (Str × K87M.Step)) : List (Str × K87M.Step) := ps.take j ++ ps.drop (j + 1)
theorem places_lt {ps : List (Str × K87M.Step)} {u : Str} {j : Nat} (h : j ∈ places ps u) : j < ps.length := by
  obtain ⟨x, hx, e⟩ := List.mem_filterMap.mp h
  split at e
  · cases e
    have := List.mem_zipIdx_iff_getElem?.mp hx
    exact (List.getElem?_eq_some_iff.mp this).1
  · cases e
theorem cut_take {α : Type} {a : List α} {j : Nat} (h : j ≤ a.length) : cutA a none (some (j : Int)) = a.take j := by
  unfold cutA
  rw [HT.sIx_none, HT.sIx_nat, Nat.min_eq_left h, List.drop_zero, Nat.sub_zero]
theorem cut_drop {α : Type} {a : List α} {j : Nat} (h : j ≤ a.length) : cutA a (some (j : Int)) none = a.drop j := by
  unfold cutA
  rw [HT.sIx_none, HT.sIx_nat, Nat.min_eq_left h, List.take_of_length_le (by rw [List.length_drop]; exact Nat.le_refl _)]
theorem placesD (ps : List (Str × K87M.Step)) (u : Str) : (ps.zipIdx.filterMap fun x => if x.1.1 = u then some (PyData.int (x.2 : Int)) else none) = (places ps u).map fun (j : Nat) => PyData.int (j : Int) := by
  unfold places
  rw [List.map_filterMap]
  congr 1
  funext x
  split <;> rfl
theorem enAll_pairs (ps : List (Str × K87M.Step)) : enAll ((ps.map pairD).map .d) = ps.zipIdx.map fun p => tv [.int (p.2 : Int), pairD p.1] := by
  unfold enAll
  rw [List.map_map]
  apply List.ext_getElem?
  intro i
  rw [List.getElem?_mapIdx, List.getElem?_map, List.getElem?_map, List.getElem?_zipIdx]
  cases ps[i]? with
  | none => rfl
  | some s => simp [enA]
theorem psOk_drop {ps : List (Str × K87M.Step)} (h : PsOk ps) (j : Nat) : PsOk (dropAt j ps) := fun x hx => by
  rcases (List.mem_append.mp hx) with q | q
  · exact h x (List.mem_of_mem_take q)
  · exact h x (List.mem_of_mem_drop q)
/-- the class NothingToUndo -/
abbrev NUc (K : PySem.W.Frag) (mg : Str → Option Value) (C fI : Addr) : Prop := OEc K mg "NothingToUndo" "user" "NothingToUndo.__init__" "LookupError.__new__" tlL C fI
theorem oen_user : OEn "user" "NothingToUndo.__init__" := ⟨fun _ _ _ _ _ _ _ _ _ _ _ _ _ => rfl, fun _ _ => by rfl, fun _ _ _ _ _ => by rfl, fun _ _ _ _ _ => by rfl, fun _ _ _ => by rfl, fun _ _ _ => by rfl, by decide⟩
section
variable {P : Program} {w : World} {K : PySem.W.Frag} {mg : Str → Option Value} {base : Heap} {f : Addr} {fd : FuncData} {C SFa SFi NUa NUi : Addr}
theorem pres_ses {g h h' : List Int} {ps : List (Str × K87M.Step)} : putA "present" (.d (stk h')) (sesF g h ps) = sesF g h' ps := rfl
theorem pairs_ses {g h : List Int} {ps ps' : List (Str × K87M.Step)} : putA "pairs" (tv (ps'.map pairD)) (sesF g h ps) = sesF g h ps' := rfl
/-! ### do -/
def fbDo (C SFa : Addr) : FS := fun as μ k F => ∃ (p : Addr) (g h : List Int) (ps : List (Str × K87M.Step)) (u : Str) (ss : List K87M.Step), Dec h ∧ h.length + total ss < 100000 ∧ ps.length < 100000 ∧ (∀ s ∈ ss, s.Ok) ∧ UserOk u ∧ as = [rv p, sv u, tv (ss.map stepD)] ∧ μ p = some (ses C g h ps) ∧
  (∀ h', runF h 0 ss = .inl h' → k (.d (stk h')) (mset μ p (ses C g h' (ps ++ ss.map fun s => (u, s))))) ∧ ∀ i, runF h 0 ss = .inr i → F SFa "index" (iv (i : Int)) μ
theorem sc_do : FnScope ["self", "user", "steps", "step"] (([("self" : Str), ("user" : Str)] ++ [("steps" : Str)]) : List Str) (C8.fnScope (mth 10)) := C8.fnScope_by (by decide +kernel)
theorem sesF_len {g h : List Int} {ps : List (Str × K87M.Step)} : (sesF g h ps).length < 1000 := by show 4 < 1000; decide
theorem fn_do (Fu : C8.Fun K "do" "Session.do" (mth 10) f fd) (df : fd.defaults = .none) (S : SesC K C) (B : Bl mg) (c_check_user : C8.Cal P w K mg base 3 "check_user" (spF K fsChkUser) []) {fW : Addr} (bW : BMeth K C "what_if" fW) (c_what : FnR P w K mg base (L2.CX P w) 8 fW (spF K (starS 1 (fbWhat C SFa)))) :
    FnR P w K mg base (L2.CX P w) 9 f (spF K (starS 2 (fbDo C SFa))) := by
  refine starD (ps := ["self", "user"]) (pv := "steps") Fu df sc_do (fun kV doc pm an cdv ct => StX.bind_star2 (p1 := "self") (p2 := "user") (pv := "steps") (B := fun l => bindArgs (PySem.W.fnOf "do" "Session.do" (C8.fnArgs (mth 10)) (C8.fnBody (mth 10)) (C8.fnScope (mth 10)) .none kV doc pm an cdv ct) ⟨l, []⟩) (fun a b => rfl) fun a b r rs => rfl)
    fun cdv A outer s H E hr as μ k F ⟨p, g, h, ps, u, ss, dh, hl, hpl, ok, hu, has, hp, hk, hF⟩ => ?_
  subst has
  have hsl := len_total ok
  refine s_cons ?_
  refine s_expr ?_
  refine d_call c_check_user hr (by decide) rfl ?_
  refine d_cons ?_
  refine d_var 1 rfl ?_ -- user
  refine d_nil ?_
  refine ⟨_, ⟨u, hu, rfl, rfl⟩, ?_⟩ -- check_user
  refine s_cons ?_
  refine s_fld ?_
  refine d_methS S.cls bW c_what hr (by decide) passC ?_
  refine d_var 0 rfl ?_
  refine ⟨p, _, rfl, hp, rfl, ?_⟩
  refine d_var 2 rfl ?_
  refine ⟨_, rfl, [rv p], _, rfl, rfl, by rw [List.length_map]; omega, ⟨p, g, h, ps, ss, dh, hl, ok, rfl, hp, fun h' hrun => ?_, hF⟩⟩
  refine d_var 0 rfl ?_
  refine ⟨p, C, _, rfl, hp, S.cls, S.nPresent, sesF_len, ?_⟩
  rw [pres_ses]
  refine s_cons ?_
  refine s_fld ?_
  refine d_tup ?_
  refine d_star ?_
  refine d_fld ?_ -- .pairs
  refine d_var 0 rfl ?_ -- self
  refine ⟨p, C, _, _, rfl, mset_same, S.cls, S.nPairs, rfl, _, .tup _, ?_⟩
  refine d_star ?_
  refine d_lc1 3 [("step", 3)] rfl sc_do.nd (blkOk_by (N := ["self", "user", "steps", "step"]) (sc := C8.fnScope (mth 10)) (by decide +kernel)) ?_
  refine i_tup ?_
  refine d_var 2 rfl ?_ -- steps
  refine ⟨_, rfl, lcF_lcW ⟨trivial, _, ss, fun a => .d (stepD a), fun a => some (pairD (u, a)), by rw [List.map_map]; rfl, by omega, fun a ha => ?_, ?_⟩⟩
  · refine ⟨_, rfl, ?_⟩
    refine ⟨rfl, fun h => absurd h (by decide), fun _ => ?_⟩
    intro s H0 C cl fp
    refine d_tup ?_
    refine d_cons ?_
    refine d_var 1 rfl ?_ -- user
    refine d_cons ?_
    refine d_var 3 rfl ?_ -- step
    refine d_nil ?_
    refine ⟨[.str u, stepD a], rfl, by simp, ?_⟩
    exact ⟨rfl, _, rfl, rfl⟩
  rw [List.filterMap_eq_map']
  refine ⟨_, .lst _, ?_⟩
  refine d_nil ?_
  have e2 : ps.map pairD ++ ss.map (fun a => pairD (u, a)) = (ps ++ ss.map fun s => (u, s)).map pairD := by rw [List.map_append, List.map_map]; rfl
  refine ⟨(ps ++ ss.map fun s => (u, s)).map pairD, ?_, by rw [List.length_map, List.length_append, List.length_map]; omega, ?_⟩
  · rw [List.append_nil, ← List.map_append, e2]
  refine d_var 0 rfl ?_
  refine ⟨p, C, _, rfl, mset_same, S.cls, S.nPairs, sesF_len, ?_⟩
  rw [pairs_ses, mset_mset]
  refine s_one ?_
  refine s_ret ?_
  refine d_fld ?_ -- .present
  refine d_var 0 rfl ?_ -- self
  exact ⟨p, C, _, _, rfl, mset_same, S.cls, S.nPresent, rfl, hk h' hrun⟩
end
end K87
end

section
set_option Elab.async false
set_option linter.all false
set_option maxRecDepth 100000
set_option maxHeartbeats 1100000
set_option autoImplicit false
namespace K87
open PySem PySem.Spec PyProof.Rows L2 K87M
theorem list_int_nil {l : List Nat} : (PyData.list (l.map fun (j : Nat) => PyData.int (j : Int))) = .list [] ↔ l = [] := by
  constructor
  · intro h
    injection h with h
    exact List.map_eq_nil_iff.mp h
  · rintro rfl; rfl
theorem gd_ints (n : Nat) (l : List Nat) : Gd (n + 1) (.list (l.map fun (j : Nat) => PyData.int (j : Int))) := .lst _ _ fun y hy => by
  obtain ⟨x, _, e⟩ := List.mem_map.mp hy
  subst e; exact .int _ _
theorem total_sub {a b : List K87M.Step} (h : a.Sublist b) : total a ≤ total b := by
  induction h with
  | slnil => exact Nat.le_refl _
  | cons x _ ih => rw [total_cons]; omega
  | cons_cons x _ ih => rw [total_cons, total_cons]; omega
theorem dropAt_sub (j : Nat) (ps : List (Str × K87M.Step)) : (dropAt j ps).Sublist ps := by
  unfold dropAt
  conv => rhs; rw [← List.take_append_drop j ps]
  refine List.Sublist.append (List.Sublist.refl _) ?_
  rw [← List.drop_drop]
  exact List.drop_sublist 1 _
section
variable {P : Program} {w : World} {K : PySem.W.Frag} {mg : Str → Option Value} {base : Heap} {f : Addr} {fd : FuncData} {C SFa SFi NUa NUi : Addr}
/-! ### undo -/
def fsUndo (C SFa NUa : Addr) : FS := fun as μ k F => ∃ (p : Addr) (g h : List Int) (ps : List (Str × K87M.Step)) (u : Str), Dec g ∧ g.length + total (stepsOf ps) < 100000 ∧ PsOk ps ∧ Usr u ∧ as = [rv p, sv u] ∧ μ p = some (ses C g h ps) ∧
  (places ps u = [] → F NUa "user" (sv u) μ) ∧ ∀ i0 j, places ps u = i0 ++ [j] →
    (∀ h', runF g 0 (stepsOf (dropAt j ps)) = .inl h' → k (.d (stk h')) (mset μ p (ses C g h' (dropAt j ps)))) ∧ ∀ i, runF g 0 (stepsOf (dropAt j ps)) = .inr i → F SFa "index" (iv (i : Int)) μ
theorem sc_undo : FnScope ["self", "user", "places", "pairs", "place", "pair", "owner", "step"] ["self", "user"] (C8.fnScope (mth 11)) := C8.fnScope_by (by decide +kernel)
theorem fn_undo (Fu : C8.Fun K "undo" "Session.undo" (mth 11) f fd) (b : Binds K fd ["self", "user"] []) (S : SesC K C) (B : Bl mg) (NU : NUc K mg NUa NUi) (c_check_user : C8.Cal P w K mg base 3 "check_user" (spF K fsChkUser) []) (c_run : CalX P w K mg base 7 "run" (spF K (fsRun SFa))) :
    FnR P w K mg base (L2.CX P w) 8 f (spF K (fsUndo C SFa NUa)) := by
  refine fnXD Fu b sc_undo (fun as μ k F ⟨_, _, _, _, _, _, _, _, _, h, _⟩ => by rw [h]; rfl) fun cdv A outer s H E hr as μ k F ⟨p, g, h, ps, u, dg, hl, ok, hu, has, hp, hno, hyes⟩ => ?_
  subst has
  have hps : ps.length ≤ total (stepsOf ps) := by
    have := len_total (psOk_steps ok)
    rwa [List.length_map] at this
  refine s_cons ?_
  refine s_expr ?_
  refine d_call c_check_user hr (by decide) rfl ?_
  refine d_cons ?_
  refine d_var 1 rfl ?_ -- user
  refine d_nil ?_
  refine ⟨_, ⟨u, hu.1, rfl, rfl⟩, ?_⟩ -- check_user
  refine s_cons ?_
  refine s_setLc2 4 5 2 [("place", 4), ("pair", 5)] rfl sc_undo.nd (blkOk_by (N := ["self", "user", "places", "pairs", "place", "pair", "owner", "step"]) (sc := C8.fnScope (mth 11)) (by decide +kernel)) ?_ (sw_true rfl rfl rfl (by decide +kernel))
  refine i_enumT rfl B.enumerate ?_
  refine d_fld ?_ -- .pairs
  refine d_var 0 rfl ?_ -- self
  refine ⟨p, C, _, _, rfl, hp, S.cls, S.nPairs, rfl, _, rfl, lcF_lcW ⟨trivial, _, ps.zipIdx, fun x => tv [.int (x.2 : Int), pairD x.1], fun x => if x.1.1 = u then some (PyData.int (x.2 : Int)) else none, enAll_pairs ps, by rw [List.length_zipIdx]; omega, fun a ha => ?_, ?_⟩⟩
  · have hmem : a.1 ∈ ps := List.mem_of_getElem? (List.mem_zipIdx_iff_getElem?.mp ha)
    refine ⟨_, rfl, ?_⟩
    intro s H0 C cl fp
    refine d_tcmp (op_eqD hr.units) rfl ?_
    refine d_ix ?_
    refine d_var 5 rfl ?_ -- pair
    refine d_int ?_
    refine ⟨_, _, sv a.1.1, .tup _, rfl, rfl, ?_⟩
    refine d_var 1 rfl ?_ -- user
    refine dr_eqG ⟨_, _, 0, 0, rfl, rfl, .str _ _ (ok _ hmem).1.2, .str _ _ hu.2, by decide, by decide, fun h => ⟨_, rfl, rfl, fun h => absurd h (by decide), fun _ => ?_⟩, fun h => ⟨_, rfl, rfl, fun _ => if_neg fun z => h (by rw [z]), fun h => absurd h (by decide)⟩⟩
    have hau : a.1.1 = u := by injection h
    intro s H0 C cl fp
    refine d_var 4 rfl ?_ -- place
    exact ⟨rfl, _, if_pos hau, rfl⟩
  rw [placesD]
  refine s_cons ?_
  refine s_if ?_
  refine d_tcmp (op_eqD hr.units) rfl ?_
  refine d_var 2 rfl ?_ -- places
  refine d_lst ?_
  refine d_nil ?_
  refine ⟨by simp, .inl ⟨[], rfl, ?_⟩⟩
  refine dr_eqG ⟨_, _, 1, 1, rfl, rfl, gd_ints 0 _, gd_nilL 0, by decide, by decide, fun h => ⟨_, rfl, fun _ => ?_, fun h => absurd h (by decide)⟩, fun h => ⟨_, rfl, fun h => absurd h (by decide), fun _ => ?_⟩⟩
  · refine s_one ?_
    refine s_raise (k := 1) PySem.F.excBase_LookupError PySem.F.store_LookupError NU oen_user rfl takesC (hr.mono (by decide)) rfl ?_
    refine d_cons ?_
    refine d_var 1 rfl ?_
    refine d_nil ?_
    exact ⟨_, rfl, hno (list_int_nil.mp h)⟩
  have hne : places ps u ≠ [] := fun z => h (list_int_nil.mpr z)
  refine s_nil ?_
  generalize hj : (places ps u).getLast hne = j
  have eL : places ps u = (places ps u).dropLast ++ [j] := by rw [← hj]; exact (List.dropLast_concat_getLast hne).symm
  have jl : j < ps.length := places_lt (u := u) (by rw [eL]; simp)
  obtain ⟨hin, hinr⟩ := hyes _ _ eL
  have hlast : atI (((places ps u).map fun (j : Nat) => PyData.int (j : Int)).map AV.d) (-1) = some (iv (j : Int)) := by
    rw [eL, List.map_append, List.map_append]
    exact atI_last _ _
  refine s_cons ?_
  refine s_set 3 ?_ sc_undo.nd -- pairs
  refine d_catT ?_
  refine d_slT ?_
  refine d_fld ?_ -- .pairs
  refine d_var 0 rfl ?_ -- self
  refine ⟨p, C, _, _, rfl, hp, S.cls, S.nPairs, rfl, ?_⟩
  refine d_onone ?_
  refine d_osome ?_
  refine d_ix ?_
  refine d_var 2 rfl ?_ -- places
  refine d_neg ?_
  refine d_int ?_
  refine ⟨_, rfl, ?_⟩
  refine ⟨_, _, _, .lst _, rfl, hlast, ?_⟩
  refine ⟨_, rfl, ?_⟩
  refine ⟨_, rfl, ?_⟩
  refine d_slT ?_
  refine d_fld ?_ -- .pairs
  refine d_var 0 rfl ?_ -- self
  refine ⟨p, C, _, _, rfl, hp, S.cls, S.nPairs, rfl, ?_⟩
  refine d_osome ?_
  refine d_add ?_
  refine d_ix ?_
  refine d_var 2 rfl ?_ -- places
  refine d_neg ?_
  refine d_int ?_
  refine ⟨_, rfl, ?_⟩
  refine ⟨_, _, _, .lst _, rfl, hlast, ?_⟩
  refine d_int ?_
  refine ⟨_, _, rfl, rfl, ?_⟩
  refine ⟨_, rfl, ?_⟩
  refine d_onone ?_
  refine ⟨_, rfl, ?_⟩
  have ec : cutA (ps.map pairD) none (some (j : Int)) ++ cutA (ps.map pairD) (some ((j : Int) + 1)) none = (dropAt j ps).map pairD := by
    rw [show ((j : Int) + 1) = ((j + 1 : Nat) : Int) by omega, cut_take (by rw [List.length_map]; omega), cut_drop (by rw [List.length_map]; omega), ← List.map_take, ← List.map_drop, ← List.map_append]
    rfl
  refine (⟨_, _, rfl, rfl, ?_, ?_⟩)
  · rw [← List.length_append, ec, List.length_map]
    have := (dropAt_sub j ps).length_le
    omega
  rw [ec]
  have hsub := dropAt_sub j ps
  have hdl := hsub.length_le
  have htot : total (stepsOf (dropAt j ps)) ≤ total (stepsOf ps) := total_sub (hsub.map _)
  refine s_cons ?_
  refine s_fld ?_
  refine d_callY c_run hr (by decide) rfl passC ?_
  refine d_cons ?_
  refine d_fld ?_ -- .first
  refine d_var 0 rfl ?_ -- self
  refine ⟨p, C, _, _, rfl, hp, S.cls, S.nFirst, rfl, ?_⟩
  refine d_cons ?_
  refine d_lc2 6 7 [("owner", 6), ("step", 7)] rfl sc_undo.nd (blkOk_by (N := ["self", "user", "places", "pairs", "place", "pair", "owner", "step"]) (sc := C8.fnScope (mth 11)) (by decide +kernel)) ?_
  refine i_tup ?_
  refine d_var 3 rfl ?_ -- pairs
  refine ⟨_, rfl, lcF_lcW ⟨trivial, _, dropAt j ps, fun a => .d (pairD a), fun a => some (stepD a.2), by rw [List.map_map]; rfl, by omega, fun a ha => ?_, ?_⟩⟩
  · refine ⟨_, rfl, ?_⟩
    refine ⟨rfl, fun h => absurd h (by decide), fun _ => ?_⟩
    intro s H0 C cl fp
    refine d_var 7 rfl ?_ -- step
    exact ⟨rfl, _, rfl, rfl⟩
  rw [List.filterMap_eq_map', show (dropAt j ps).map (fun a => stepD a.2) = (stepsOf (dropAt j ps)).map stepD from stepsD_of _]
  refine d_nil ?_
  refine ⟨g, stepsOf (dropAt j ps), _, dg, by omega, psOk_steps (psOk_drop ok j), .lst _, rfl, fun h' hrun => ?_, fun i hi => hinr i hi⟩ -- run
  refine d_var 0 rfl ?_
  refine ⟨p, C, _, rfl, hp, S.cls, S.nPresent, sesF_len, ?_⟩
  rw [pres_ses]
  refine s_cons ?_
  refine s_fld ?_
  refine d_var 3 rfl ?_ -- pairs
  refine d_var 0 rfl ?_
  refine ⟨p, C, _, rfl, mset_same, S.cls, S.nPairs, sesF_len, ?_⟩
  rw [pairs_ses, mset_mset]
  refine s_one ?_
  refine s_ret ?_
  refine d_fld ?_ -- .present
  refine d_var 0 rfl ?_ -- self
  exact ⟨p, C, _, _, rfl, mset_same, S.cls, S.nPresent, rfl, hin h' hrun⟩
end
end K87
end

section
set_option Elab.async false
set_option linter.all false
set_option maxRecDepth 100000
set_option maxHeartbeats 1100000
set_option autoImplicit false
namespace K87
open PySem PySem.Spec PyProof.Rows L2 K87M
section
variable {P : Program} {w : World} {K : PySem.W.Frag} {mg : Str → Option Value} {base : Heap} {f : Addr} {fd : FuncData} {C SFa SFi NUa NUi : Addr}
/-! ### fresh -/
def fsFresh (C : Addr) : FS := fun as μ k _ => ∃ (p : Addr) (g h : List Int) (ps : List (Str × K87M.Step)), Dec g ∧ g.length < 100000 ∧ as = [rv p] ∧ μ p = some (ses C g h ps) ∧ ∀ q, μ q = none → k (rv q) (mset μ q (ses C g g []))
theorem sc_fresh : FnScope ["self"] ["self"] (C8.fnScope (mth 12)) := C8.fnScope_by (by decide +kernel)
theorem fn_fresh (Fu : C8.Fun K "fresh" "Session.fresh" (mth 12) f fd) (S : SesC K C) (M : C8.Mak P w K mg base 6 "Session" C (spF K (fsInit C)) []) : FnOk P w K mg base CX0 8 f fd ["self"] (spF K (fsFresh C)) := by
  refine fnD Fu sc_fresh (fun as μ k F ⟨_, _, _, _, _, _, h, _⟩ => by rw [h]; rfl) fun cdv A outer s H E hr as μ k F ⟨p, g, h, ps, dg, hl, has, hp, hk⟩ => ?_
  subst has
  refine s_one ?_
  refine s_ret ?_
  refine d_make M hr (by decide) rfl ?_
  refine d_cons ?_
  refine d_fld ?_
  refine d_var 0 rfl ?_ -- self
  refine ⟨p, C, _, _, rfl, hp, S.cls, S.nFirst, rfl, ?_⟩
  refine d_nil ?_
  intro q hq
  refine ⟨q, g, dg, hl, rfl, mset_same, rfl, ?_⟩
  rw [mset_mset]
  exact hk q hq
/-! ### copy -/
def fsCopy (C : Addr) : FS := fun as μ k _ => ∃ (p : Addr) (g h : List Int) (ps : List (Str × K87M.Step)), Dec g ∧ g.length < 100000 ∧ as = [rv p] ∧ μ p = some (ses C g h ps) ∧ ∀ q, μ q = none → k (rv q) (mset μ q (ses C g h ps))
theorem sc_copy : FnScope ["self", "found"] ["self"] (C8.fnScope (mth 13)) := C8.fnScope_by (by decide +kernel)
theorem fn_copy (Fu : C8.Fun K "copy" "Session.copy" (mth 13) f fd) (S : SesC K C) (c_fresh : C8.Met P w K mg base 8 C "fresh" (spF K (fsFresh C)) []) : FnOk P w K mg base CX0 9 f fd ["self"] (spF K (fsCopy C)) := by
  refine fnD Fu sc_copy (fun as μ k F ⟨_, _, _, _, _, _, h, _⟩ => by rw [h]; rfl) fun cdv A outer s H E hr as μ k F ⟨p, g, h, ps, dg, hl, has, hp, hk⟩ => ?_
  subst has
  refine s_cons ?_
  refine s_set 1 ?_ sc_copy.nd -- found
  refine d_meth0 c_fresh hr (by decide) ?_
  refine d_var 0 rfl ?_ -- self
  refine ⟨p, _, rfl, hp, rfl, ⟨p, g, h, ps, dg, hl, rfl, hp, fun q hq => ?_⟩⟩
  have hpq : p ≠ q := fun z => by rw [z, hq] at hp; cases hp
  refine s_cons ?_
  refine s_fld ?_
  refine d_fld ?_ -- .present
  refine d_var 0 rfl ?_ -- self
  refine ⟨p, C, _, _, rfl, (mset_ne hpq).trans hp, S.cls, S.nPresent, rfl, ?_⟩
  refine d_var 1 rfl ?_
  refine ⟨q, C, _, rfl, mset_same, S.cls, S.nPresent, sesF_len, ?_⟩
  rw [pres_ses, mset_mset]
  refine s_cons ?_
  refine s_fld ?_
  refine d_fld ?_ -- .pairs
  refine d_var 0 rfl ?_ -- self
  refine ⟨p, C, _, _, rfl, (mset_ne hpq).trans hp, S.cls, S.nPairs, rfl, ?_⟩
  refine d_var 1 rfl ?_
  refine ⟨q, C, _, rfl, mset_same, S.cls, S.nPairs, sesF_len, ?_⟩
  rw [pairs_ses, mset_mset]
  refine s_one ?_
  refine s_ret ?_
  refine d_var 1 rfl ?_ -- found
  exact hk q hq
/-! ### replayed -/
def fsRepl (C : Addr) : FS := fun as μ k _ => ∃ (g h : List Int) (ps : List (Str × K87M.Step)), Dec g ∧ g.length + total (stepsOf ps) < 100000 ∧ PsOk ps ∧ runF g 0 (stepsOf ps) = .inl h ∧ as = [rv C, .d (stk g), lv (ps.map pairD)] ∧ ∀ q, μ q = none → k (rv q) (mset μ q (ses C g h ps))
theorem sc_repl : FnScope ["cls", "stack", "log", "found", "user", "step"] ["cls", "stack", "log"] (C8.fnScope (mth 3)) := C8.fnScope_by (by decide +kernel)
theorem fn_repl (Fu : C8.Fun K "replayed" "Session.replayed" (mth 3) f fd) (b : Binds K fd ["cls", "stack", "log"] []) (S : SesC K C) (M : C8.Mak P w K mg base 6 "Session" C (spF K (fsInit C)) []) {fDo : Addr} (mDo : Meth K C "do" fDo) (c_do : FnR P w K mg base (L2.CX P w) 9 fDo (spF K (starS 2 (fbDo C SFa)))) :
    FnR P w K mg base CX0 10 f (spF K (fsRepl C)) := by
  refine fnRD Fu b sc_repl (fun as μ k F ⟨_, _, _, _, _, _, _, h, _⟩ => by rw [h]; rfl) fun cdv A outer s H E hr as μ k F ⟨g, h, ps, dg, hl, ok, hrun, has, hk⟩ => ?_
  subst has
  have hps : ps.length ≤ total (stepsOf ps) := by
    have := len_total (psOk_steps ok)
    rwa [List.length_map] at this
  refine s_cons ?_
  refine s_set 3 ?_ sc_repl.nd -- found
  refine d_makeL (i := 0) M hr (by decide) rfl ?_
  refine d_cons ?_
  refine d_var 1 rfl ?_ -- stack
  refine d_nil ?_
  intro q hq
  refine ⟨q, g, dg, by omega, rfl, mset_same, rfl, ?_⟩
  rw [mset_mset]
  refine s_cons ?_
  refine s_forL PassesOwn.never rfl ?_
  refine i_list ?_
  refine d_var 2 rfl ?_ -- log
  refine ⟨_, .lst _, _, ps, fun a => .d (pairD a), fun d ρ' μ' => ∃ h1 x y, runF g 0 (stepsOf d) = .inl h1 ∧ μ' = mset μ q (ses C g h1 d) ∧ ρ' = [some (rv C), some (.d (stk g)), some (lv (ps.map pairD)), some (rv q), x, y], by rw [List.map_map]; rfl, ⟨g, none, none, rfl, rfl, rfl⟩, fun d r ρ μ e h => .lst _, fun d a r ρ μ' e hv => ?_, fun ρ μ' hv => ?_⟩
  · obtain ⟨h1, x, y, hr1, rfl, rfl⟩ := hv
    refine g_tup rfl ⟨_, rfl, rfl, ?_⟩
    refine gs_cons (g_name 4 ?_ sc_repl.nd)
    refine gs_cons (g_name 5 ?_ sc_repl.nd)
    refine gs_nil ?_
    have hmem : a ∈ ps := by rw [e]; simp
    have hd1 := dec_runF dg hr1
    have hlen := runF_len hr1
    have est : stepsOf ps = (stepsOf d ++ [a.2]) ++ stepsOf r := by rw [e]; simp [stepsOf]
    have htot : total (stepsOf ps) = total (stepsOf d) + (a.2.cnt + total (stepsOf r)) := by rw [e]; unfold stepsOf; rw [List.map_append, List.map_cons, total_app, total_cons]
    have hdl : d.length + 1 ≤ ps.length := by rw [e, List.length_append, List.length_cons]; omega
    obtain ⟨h2, hr2⟩ := runF_left (a := stepsOf d ++ [a.2]) (b := stepsOf r) (by rw [← est]; exact hrun)
    have hsn := runF_snoc a.2 hr1
    rw [hr2] at hsn
    have haft : aft h1 a.2 = some h2 := by
      cases z : aft h1 a.2 with
      | none => rw [z] at hsn; cases hsn
      | some h3 => rw [z] at hsn; cases hsn; rfl
    have hone : runF h1 0 [a.2] = .inl h2 := by rw [runF_cons, haft]; rfl
    refine s_one ?_
    refine s_expr ?_
    refine d_methR S.cls mDo c_do hr (by decide) passL ?_
    refine d_var 3 rfl ?_ -- found
    refine ⟨q, _, rfl, mset_same, rfl, ?_⟩
    refine d_cons ?_
    refine d_var 4 rfl ?_ -- user
    refine d_cons ?_
    refine d_var 5 rfl ?_ -- step
    refine d_nil ?_
    refine ⟨[rv q, sv a.1], [stepD a.2], rfl, rfl, by simp, ⟨q, g, h1, d, a.1, [a.2], hd1, ?_, by omega, fun s hs => ?_, (ok a hmem).1.1, rfl, mset_same, fun h' hh => ?_, fun i hi => ?_⟩⟩
    · have e1 : total [a.2] = a.2.cnt := by simp [total]
      omega
    · rw [List.mem_singleton.mp hs]; exact (ok a hmem).2
    · rw [hone] at hh
      cases hh
      rw [mset_mset]
      exact ⟨h2, _, _, by unfold stepsOf; rw [List.map_append]; exact hr2, rfl, rfl⟩
    · rw [hone] at hi; cases hi
  · obtain ⟨h1, x, y, hr1, rfl, rfl⟩ := hv
    rw [hrun] at hr1
    cases hr1
    refine s_one ?_
    refine s_ret ?_
    refine d_var 3 rfl ?_ -- found
    exact hk q hq
end
end K87
end

section
set_option Elab.async false
set_option linter.all false
set_option maxRecDepth 100000
set_option maxHeartbeats 1100000
set_option autoImplicit false
/-! The law's own defs: the pool, numbers, steps. -/
namespace K87
open PySem PySem.Spec PyProof.Rows L2 K87M
abbrev pl (a b : Int) : RO := .lst [iv a, iv b]
theorem at_ex {xs : List AV} {r : Int} (h0 : 0 ≤ r) (h1 : r < xs.length) : ∃ x, atI xs r = some x ∧ xs[r.toNat]? = some x := by
  have hl : r.toNat < xs.length := by omega
  refine ⟨xs[r.toNat], ?_, List.getElem?_eq_getElem hl⟩
  (obtain ⟨j, rfl⟩ := Int.eq_ofNat_of_zero_le h0); exact atI_nat (List.getElem?_eq_getElem (by simpa using hl))
theorem mb (x : Int) : -(2 ^ 64) < x % 2147483647 ∧ x % 2147483647 < 2 ^ 64 := by omega
theorem p1 : (0 : Int) < 2147483629 := by decide
theorem p2 : (0 : Int) < 2147483647 := by decide
section
variable {P : Program} {w : World} {K : PySem.W.Frag} {mg : Str → Option Value} {base : Heap} {f : Addr} {fd : FuncData}
/-! ### _law_pool -/
def fsPool : FS := fun as μ k _ => ∃ (ns : List Int) (j : Nat), ns.length ≤ sizeLine ∧ j < 1000000 ∧ as = [lv (ns.map .int), iv j] ∧ ∀ q a b, μ q = none → k (rv q) (mset μ q (pl a b))
theorem sc_pool : FnScope ["_law_script", "_law_k", "_law_cell", "_law_blend"] ["_law_script", "_law_k"] (C8.fnScope (top 52)) := C8.fnScope_by (by decide +kernel)
theorem cal_pool (D : C8.Def K mg "_law_pool" (top 52) f fd) (b : Binds K fd ["_law_script", "_law_k"] []) (B : Bl mg) : C8.Cal P w K mg base 1 "_law_pool" (spF K fsPool) [] := by
  refine calD D b sc_pool (fun as μ k F ⟨_, _, _, _, h, _⟩ => by rw [h]; rfl) fun cdv A outer s H E hr as μ k F ⟨ns, j, hl, hj, h, hk⟩ => ?_
  subst h
  have tail : ∀ c : Int, dSs (XB P w K mg base ["_law_script", "_law_k", "_law_cell", "_law_blend"] "_law_pool" (top 52) f cdv A outer s H E) E0 F0 ((C8.fnBody (top 52)).drop 2) [some (lv (ns.map .int)), some (iv j), some (iv c), none] μ { nx := fun _ μ' => k nv μ', rt := k } := by
    intro c
    refine s_cons ?_
    refine s_set 3 ?_ sc_pool.nd -- _law_blend
    refine d_mod ?_
    refine d_mul ?_
    refine d_add ?_
    refine d_add ?_
    refine d_add ?_
    refine d_mod ?_
    refine d_var 2 rfl ?_ -- _law_cell
    refine d_int ?_
    refine ⟨_, _, rfl, rfl, p1, ?_⟩
    refine d_mul ?_
    refine d_mul ?_
    refine d_int ?_
    refine d_var 1 rfl ?_ -- _law_k
    refine ⟨_, _, rfl, rfl, .inl (by decide), ?_⟩
    refine d_var 1 rfl ?_ -- _law_k
    refine ⟨_, _, rfl, rfl, .inr (by omega), ?_⟩
    refine ⟨_, _, rfl, rfl, ?_⟩
    refine d_mul ?_
    refine d_int ?_
    refine d_var 1 rfl ?_ -- _law_k
    refine ⟨_, _, rfl, rfl, .inl (by decide), ?_⟩
    refine ⟨_, _, rfl, rfl, ?_⟩
    refine d_int ?_
    refine ⟨_, _, rfl, rfl, ?_⟩
    refine d_int ?_
    refine ⟨_, _, rfl, rfl, .inr (by decide), ?_⟩
    refine d_int ?_
    refine ⟨_, _, rfl, rfl, p2, ?_⟩
    refine s_one ?_
    refine s_ret ?_
    refine d_lst ?_
    refine d_cons ?_
    refine d_mul ?_
    refine d_var 2 rfl ?_ -- _law_cell
    refine d_intB rfl B.int ?_
    refine d_cmp op_ge rfl ?_
    refine d_var 2 rfl ?_ -- _law_cell
    refine d_pow ?_
    refine d_int ?_
    refine d_int ?_
    refine ⟨_, _, rfl, rfl, ⟨by decide, by decide, by decide⟩, ?_⟩
    refine dr_c ⟨_, _, rfl, rfl, _, rfl, ?_⟩
    refine ⟨_, _, rfl, rfl, .inr (by split <;> decide), ?_⟩
    refine d_cons ?_
    refine d_mod ?_
    refine d_mul ?_
    refine d_var 3 rfl ?_ -- _law_blend
    refine d_var 3 rfl ?_ -- _law_blend
    refine ⟨_, _, rfl, rfl, .inl (mb _), ?_⟩
    refine d_int ?_
    refine ⟨_, _, rfl, rfl, p1, ?_⟩
    refine d_nil ?_
    exact ⟨by simp, .inr fun q hq => hk q _ _ hq⟩
  refine s_cons ?_
  refine s_set 2 ?_ sc_pool.nd -- _law_cell
  refine d_int ?_
  refine s_cons ?_
  refine s_if ?_
  refine d_tcmp op_lt rfl ?_
  refine d_var 1 rfl ?_ -- _law_k
  refine d_len rfl B.len ?_
  refine d_var 0 rfl ?_ -- _law_script
  refine ⟨_, .lst _, ?_⟩
  refine dr_c ⟨_, _, rfl, rfl, _, rfl, ?_⟩
  refine ⟨fun h => ?_, fun h => ?_⟩
  · have h' := of_decide_eq_true h
    rw [List.length_map, List.length_map] at h'
    obtain ⟨x, hx, hx2⟩ := at_ex (xs := (ns.map PyData.int).map AV.d) (r := (j : Int)) (by omega) (by rw [List.length_map, List.length_map]; exact h')
    obtain ⟨c, rfl⟩ : ∃ c, x = iv c := by
      rw [List.getElem?_map, List.getElem?_map] at hx2
      cases e : ns[((j : Int)).toNat]? with
      | none => rw [e] at hx2; cases hx2
      | some c => rw [e] at hx2; cases hx2; exact ⟨c, rfl⟩
    refine s_one ?_
    refine s_set 2 ?_ sc_pool.nd -- _law_cell
    refine d_abs rfl B.abs ?_
    refine d_ix ?_
    refine d_var 0 rfl ?_ -- _law_script
    refine d_var 1 rfl ?_ -- _law_k
    refine ⟨_, _, _, .lst _, rfl, hx, c, rfl, ?_⟩
    exact tail _
  · refine s_nil ?_
    exact tail _
/-! ### _law_take -/
def fsTake : FS := fun as μ k _ => ∃ (q : Addr) (a b n : Int), 0 < n ∧ n < 1000000 ∧ as = [rv q, iv n] ∧ μ q = some (pl a b) ∧ ∀ r a' b', 0 ≤ r → r < n → k (iv r) (mset μ q (pl a' b'))
theorem sc_take : FnScope ["_law_pool_here", "_law_sides", "_law_found"] ["_law_pool_here", "_law_sides"] (C8.fnScope (top 53)) := C8.fnScope_by (by decide +kernel)
theorem cal_take (D : C8.Def K mg "_law_take" (top 53) f fd) (b : Binds K fd ["_law_pool_here", "_law_sides"] []) : C8.Cal P w K mg base 1 "_law_take" (spF K fsTake) [] := by
  refine calD D b sc_take (fun as μ k F ⟨_, _, _, _, _, _, h, _⟩ => by rw [h]; rfl) fun cdv A outer s H E hr as μ k F ⟨q, a, b, n, hn, hn2, h, hq, hk⟩ => ?_
  subst h
  refine s_cons ?_
  refine s_if ?_
  refine d_tcmp op_gt rfl ?_
  refine d_ix ?_
  refine d_var 0 rfl ?_ -- _law_pool_here
  refine d_int ?_
  refine ⟨_, _, iv a, .own q _ hq, rfl, rfl, ?_⟩
  refine d_int ?_
  refine dr_c ⟨_, _, rfl, rfl, _, rfl, ?_⟩
  refine ⟨fun h => ?_, fun h => ?_⟩
  · refine s_cons ?_
    refine s_set 2 ?_ sc_take.nd -- _law_found
    refine d_mod ?_
    refine d_ix ?_
    refine d_var 0 rfl ?_ -- _law_pool_here
    refine d_int ?_
    refine ⟨_, _, iv a, .own q _ hq, rfl, rfl, ?_⟩
    refine d_var 1 rfl ?_ -- _law_sides
    refine ⟨_, _, rfl, rfl, hn, ?_⟩
    refine s_cons ?_
    refine s_asg ?_
    refine d_fdiv ?_
    refine d_ix ?_
    refine d_var 0 rfl ?_ -- _law_pool_here
    refine d_int ?_
    refine ⟨_, _, iv a, .own q _ hq, rfl, rfl, ?_⟩
    refine d_var 1 rfl ?_ -- _law_sides
    refine ⟨_, _, rfl, rfl, ⟨hn, by omega⟩, ?_⟩
    refine g_subL ?_
    refine d_var 0 rfl ?_
    refine d_int ?_
    refine ⟨q, _, _, 0, rfl, rfl, hq, rfl, ?_⟩
    refine s_one ?_
    refine s_ret ?_
    refine d_var 2 rfl ?_ -- _law_found
    exact hk _ _ _ (Int.emod_nonneg _ (by omega)) (Int.emod_lt_of_pos _ hn)
  · refine s_nil ?_
    refine s_cons ?_
    refine s_asg ?_
    refine d_mod ?_
    refine d_add ?_
    refine d_mul ?_
    refine d_ix ?_
    refine d_var 0 rfl ?_ -- _law_pool_here
    refine d_int ?_
    refine ⟨_, _, iv b, .own q _ hq, rfl, rfl, ?_⟩
    refine d_int ?_
    refine ⟨_, _, rfl, rfl, .inr (by decide), ?_⟩
    refine d_int ?_
    refine ⟨_, _, rfl, rfl, ?_⟩
    refine d_int ?_
    refine ⟨_, _, rfl, rfl, p2, ?_⟩
    refine g_subL ?_
    refine d_var 0 rfl ?_
    refine d_int ?_
    refine ⟨q, _, _, 1, rfl, rfl, hq, rfl, ?_⟩
    show dSs _ _ _ _ _ (mset μ q (pl a ((b * 48271 + 12345) % 2147483647))) _
    generalize hb : (b * 48271 + 12345) % 2147483647 = bl
    have hb1 : 0 ≤ bl ∧ bl < 2147483647 := by rw [← hb]; omega
    have hq2 : mset μ q (pl a bl) q = some (pl a bl) := mset_same
    refine s_one ?_
    refine s_ret ?_
    refine d_mod ?_
    refine d_fdiv ?_
    refine d_mod ?_
    refine d_mul ?_
    refine d_ix ?_
    refine d_var 0 rfl ?_ -- _law_pool_here
    refine d_int ?_
    refine ⟨_, _, iv bl, .own q _ hq2, rfl, rfl, ?_⟩
    refine d_ix ?_
    refine d_var 0 rfl ?_ -- _law_pool_here
    refine d_int ?_
    refine ⟨_, _, iv bl, .own q _ hq2, rfl, rfl, ?_⟩
    refine ⟨_, _, rfl, rfl, .inl (by omega), ?_⟩
    refine d_int ?_
    refine ⟨_, _, rfl, rfl, p1, ?_⟩
    refine d_int ?_
    refine ⟨_, _, rfl, rfl, ⟨by decide, by decide⟩, ?_⟩
    refine d_var 1 rfl ?_ -- _law_sides
    refine ⟨_, _, rfl, rfl, hn, ?_⟩
    have e : ∀ a' b', mset (mset μ q (pl a bl)) q (pl a' b') = mset μ q (pl a' b') := fun _ _ => mset_mset
    exact hk _ _ _ (Int.emod_nonneg _ (by omega)) (Int.emod_lt_of_pos _ hn)
end
end K87
end

section
set_option Elab.async false
set_option linter.all false
set_option maxRecDepth 100000
set_option maxHeartbeats 1100000
set_option autoImplicit false
namespace K87
open PySem PySem.Spec PyProof.Rows L2 K87M
theorem mset_comm {μ : Mu} {p q : Addr} {a b : RO} (h : p ≠ q) : mset (mset μ p a) q b = mset (mset μ q b) p a := by
  funext x
  unfold mset
  by_cases h1 : x = q
  · subst h1
    rw [if_pos rfl, if_neg (Ne.symm h), if_pos rfl]
  · by_cases h2 : x = p
    · subst h2; rw [if_neg h1, if_pos rfl, if_pos rfl]
    · rw [if_neg h1, if_neg h2, if_neg h2, if_neg h1]
theorem mset_mid {μ : Mu} {q p : Addr} {a b c : RO} (h : p ≠ q) : mset (mset (mset μ q a) p b) q c = mset (mset μ q c) p b := by
  rw [mset_comm h, mset_mset]
theorem new_ne {μ : Mu} {q p : Addr} {a : RO} (h : mset μ q a p = none) : p ≠ q ∧ μ p = none := by
  have hne : p ≠ q := fun z => by subst z; rw [mset_same] at h; cases h
  exact ⟨hne, by rw [mset_ne hne] at h; exact h⟩
/-- an int of a written list -/
theorem at_int {l : List Int} {r : Int} (h0 : 0 ≤ r) (h1 : r < l.length) : ∃ c, atI ((l.map PyData.int).map AV.d) r = some (iv c) ∧ c ∈ l := by
  obtain ⟨x, hx, hx2⟩ := at_ex (xs := (l.map PyData.int).map AV.d) (r := r) h0 (by rw [List.length_map, List.length_map]; exact h1)
  rw [List.getElem?_map, List.getElem?_map] at hx2
  cases e : l[r.toNat]? with
  | none => rw [e] at hx2; cases hx2
  | some c => rw [e] at hx2; cases hx2; exact ⟨c, hx, List.mem_of_getElem? e⟩
theorem ints_map (l : List Int) : l.map iv = (l.map PyData.int).map AV.d := by rw [List.map_map]; rfl
theorem gd_intL (n : Nat) (l : List Int) : Gd (n + 1) (.list (l.map PyData.int)) := .lst _ _ fun y hy => by
  obtain ⟨x, _, e⟩ := List.mem_map.mp hy
  subst e; exact .int _ _
theorem intL_nil {l : List Int} : (PyData.list (l.map PyData.int)) = .list [] ↔ l = [] := by
  constructor
  · intro h
    injection h with h
    exact List.map_eq_nil_iff.mp h
  · rintro rfl; rfl
section
variable {P : Program} {w : World} {K : PySem.W.Frag} {mg : Str → Option Value} {base : Heap} {f : Addr} {fd : FuncData}
/-! ### _law_numbers -/
def fsNumbers : FS := fun as μ k _ => ∃ (q : Addr) (a b : Int) (m : Nat), m < 1000 ∧ as = [rv q, iv (m : Int)] ∧ μ q = some (pl a b) ∧ ∀ (ns : List Int) a' b', ns.length = m → k (lv (ns.map .int)) (mset μ q (pl a' b'))
theorem sc_numbers : FnScope ["_law_pool_here", "_law_many", "_law_number", "_law_found", "_law_turn_here"] ["_law_pool_here", "_law_many"] (C8.fnScope (top 54)) := C8.fnScope_by (by decide +kernel)
theorem cal_numbers (D : C8.Def K mg "_law_numbers" (top 54) f fd) (b : Binds K fd ["_law_pool_here", "_law_many"] []) (B : Bl mg) (c_take : C8.Cal P w K mg base 1 "_law_take" (spF K fsTake) []) : C8.Cal P w K mg base 2 "_law_numbers" (spF K fsNumbers) [] := by
  refine calD D b sc_numbers (fun as μ k F ⟨_, _, _, _, _, h, _⟩ => by rw [h]; rfl) fun cdv A outer s H E hr as μ k F ⟨q, a, b, m, hm, h, hq, hk⟩ => ?_
  subst h
  refine s_cons ?_
  refine s_set 2 ?_ sc_numbers.nd -- _law_number
  refine d_ix ?_
  refine d_lst ?_
  refine d_cons ?_
  refine d_neg ?_
  refine d_pow ?_
  refine d_int ?_
  refine d_int ?_
  refine ⟨_, _, rfl, rfl, ⟨by decide, by decide, by decide⟩, ?_⟩
  refine ⟨_, rfl, ?_⟩
  refine d_cons ?_
  refine d_neg ?_
  refine d_int ?_
  refine ⟨_, rfl, ?_⟩
  refine d_cons ?_
  refine d_neg ?_
  refine d_int ?_
  refine ⟨_, rfl, ?_⟩
  refine d_cons ?_
  refine d_int ?_
  refine d_cons ?_
  refine d_int ?_
  refine d_cons ?_
  refine d_pow ?_
  refine d_int ?_
  refine d_int ?_
  refine ⟨_, _, rfl, rfl, ⟨by decide, by decide, by decide⟩, ?_⟩
  refine d_nil ?_
  refine ⟨by simp, .inl ⟨List.map PyData.int [_, _, _, _, _, _], rfl, ?_⟩⟩
  refine d_call c_take hr (by decide) rfl ?_
  refine d_cons ?_
  refine d_var 0 rfl ?_ -- _law_pool_here
  refine d_cons ?_
  refine d_int ?_
  refine d_nil ?_
  refine ⟨q, a, b, 6, by decide, by decide, rfl, hq, fun r a1 b1 h0 h1 => ?_⟩ -- _law_take
  obtain ⟨c, hc, _⟩ := at_int (l := [-(10 : Int) ^ (30 : Int).toNat, -50, -3, 0, 7, (10 : Int) ^ (18 : Int).toNat]) h0 h1
  refine ⟨_, _, _, .lst _, rfl, hc, ?_⟩
  refine s_cons ?_
  refine s_set 3 ?_ sc_numbers.nd -- _law_found
  refine d_lst ?_
  refine d_nil ?_
  refine ⟨by simp, .inr fun pf hpf => ?_⟩
  obtain ⟨hne, hpf0⟩ := new_ne hpf
  refine s_cons ?_
  refine s_forL PassesOwn.never rfl ?_
  refine i_range1 rfl B.range ?_
  refine d_cons ?_
  refine d_var 1 rfl ?_ -- _law_many
  refine d_nil ?_
  refine ⟨_, rfl, by omega, by omega, ?_⟩
  refine ⟨_, List.range ((m : Int)).toNat, fun i => iv (0 + (i : Int)), fun d ρ' μ' => ∃ (c : Int) (ns : List Int) (a b : Int) (x : Option AV), ns.length = d.length ∧ μ' = mset (mset μ q (pl a b)) pf (.lst (ns.map iv)) ∧ ρ' = [some (rv q), some (iv (m : Int)), some (iv c), some (rv pf), x], rfl, ⟨c, [], a1, b1, none, rfl, rfl, rfl⟩, fun d r ρ μ e h => trivial, fun d i r ρ μ' e hv => ?_, fun ρ μ' hv => ?_⟩
  · obtain ⟨c, ns, a2, b2, x, hns, rfl, rfl⟩ := hv
    have hdl : d.length < m := by
      have := congrArg List.length e
      rw [List.length_range, List.length_append, List.length_cons] at this
      omega
    refine g_name 4 ?_ sc_numbers.nd
    refine s_cons ?_
    refine s_set 2 ?_ sc_numbers.nd -- _law_number
    refine d_add ?_
    refine d_add ?_
    refine d_var 2 rfl ?_ -- _law_number
    refine d_int ?_
    refine ⟨_, _, rfl, rfl, ?_⟩
    refine d_call c_take hr (by decide) rfl ?_
    refine d_cons ?_
    refine d_var 0 rfl ?_ -- _law_pool_here
    refine d_cons ?_
    refine d_ix ?_
    refine d_lst ?_
    refine d_cons ?_
    refine d_int ?_
    refine d_cons ?_
    refine d_int ?_
    refine d_cons ?_
    refine d_int ?_
    refine d_nil ?_
    refine ⟨by simp, .inl ⟨List.map PyData.int [_, _, _], rfl, ?_⟩⟩
    refine d_call c_take hr (by decide) rfl ?_
    refine d_cons ?_
    refine d_var 0 rfl ?_ -- _law_pool_here
    refine d_cons ?_
    refine d_int ?_
    refine d_nil ?_
    refine ⟨q, a2, b2, 3, by decide, by decide, rfl, by rw [mset_ne (Ne.symm hne)]; exact mset_same, fun r1 a3 b3 h0 h1 => ?_⟩ -- _law_take
    rw [mset_mid hne]
    obtain ⟨n1, hn1, hmem⟩ := at_int (l := [1, 2, 9]) h0 h1
    have hn2 : 0 < n1 ∧ n1 < 10 := by
      simp only [List.mem_cons, List.not_mem_nil, or_false] at hmem
      omega
    refine ⟨_, _, _, .lst _, rfl, hn1, ?_⟩
    refine d_nil ?_
    refine ⟨q, a3, b3, n1, hn2.1, by omega, rfl, by rw [mset_ne (Ne.symm hne)]; exact mset_same, fun r2 a4 b4 h2 h3 => ?_⟩ -- _law_take
    rw [mset_mid hne]
    refine ⟨_, _, rfl, rfl, ?_⟩
    refine s_one ?_
    refine s_expr ?_
    refine d_append ?_
    refine d_var 3 rfl ?_ -- _law_found
    refine ⟨pf, _, rfl, mset_same, ?_⟩
    refine d_var 2 rfl ?_ -- _law_number
    refine ⟨_, mset_same, by rw [List.length_map]; omega, ?_⟩
    rw [mset_mset]
    refine ⟨c + 1 + r2, ns ++ [c + 1 + r2], a4, b4, _, by rw [List.length_append, List.length_append, hns]; rfl, ?_, rfl⟩
    rw [List.map_append]; rfl
  · obtain ⟨c, ns, a2, b2, x, hns, rfl, rfl⟩ := hv
    rw [List.length_range] at hns
    refine s_one ?_
    refine s_ret ?_
    refine d_frz ?_
    refine d_var 3 rfl ?_ -- _law_found
    refine ⟨pf, ns.map .int, rfl, by rw [mset_same, ints_map], ?_⟩
    rw [mdel_mset (by rw [mset_ne hne]; exact hpf0)]
    exact hk ns a2 b2 (by omega)
/-! ### _law_steps -/
def fsMkSteps : FS := fun as μ k _ => ∃ (q : Addr) (a b : Int) (ns : List Int) (m mx : Nat), m < 1000 ∧ 1 ≤ mx ∧ mx < 1000 ∧ ns.length < 1000 ∧ as = [rv q, lv (ns.map .int), iv (m : Int), iv (mx : Int)] ∧ μ q = some (pl a b) ∧
  ∀ (ss : List K87M.Step) a' b', ss.length = m → (∀ s ∈ ss, s.Ok ∧ s.cnt ≤ mx) → k (lv (ss.map stepD)) (mset μ q (pl a' b'))
theorem sc_mksteps : FnScope ["_law_pool_here", "_law_numbers_here", "_law_many", "_law_most", "_law_found", "_law_turn_here", "_law_count"] ["_law_pool_here", "_law_numbers_here", "_law_many", "_law_most"] (C8.fnScope (top 55)) := C8.fnScope_by (by decide +kernel)
theorem cal_mksteps (D : C8.Def K mg "_law_steps" (top 55) f fd) (b : Binds K fd ["_law_pool_here", "_law_numbers_here", "_law_many", "_law_most"] []) (B : Bl mg) (c_take : C8.Cal P w K mg base 1 "_law_take" (spF K fsTake) []) : C8.Cal P w K mg base 2 "_law_steps" (spF K fsMkSteps) [] := by
  refine calD D b sc_mksteps (fun as μ k F ⟨_, _, _, _, _, _, _, _, _, _, h, _⟩ => by rw [h]; rfl) fun cdv A outer s H E hr as μ k F ⟨q, a, b, ns, m, mx, hm, hx1, hx2, hnl, h, hq, hk⟩ => ?_
  subst h
  refine s_cons ?_
  refine s_set 4 ?_ sc_mksteps.nd -- _law_found
  refine d_lst ?_
  refine d_nil ?_
  refine ⟨by simp, .inr fun pf hpf => ?_⟩
  have hne : pf ≠ q := fun z => by subst z; rw [hq] at hpf; cases hpf
  have e0 : mset μ pf (.lst []) = mset (mset μ q (pl a b)) pf (.lst ((([] : List K87M.Step).map stepD).map .d)) := by
    funext x
    unfold mset
    by_cases h1 : x = pf
    · rw [if_pos h1, if_pos h1]; rfl
    · rw [if_neg h1, if_neg h1]
      by_cases h2 : x = q
      · rw [if_pos h2, h2]; exact hq
      · rw [if_neg h2]
  rw [e0]
  refine s_cons ?_
  refine s_forL PassesOwn.never rfl ?_
  refine i_range1 rfl B.range ?_
  refine d_cons ?_
  refine d_var 2 rfl ?_ -- _law_many
  refine d_nil ?_
  refine ⟨_, rfl, by omega, by omega, ?_⟩
  refine ⟨_, List.range ((m : Int)).toNat, fun i => iv (0 + (i : Int)), fun d ρ' μ' => ∃ (ss : List K87M.Step) (a b : Int) (x y : Option AV), ss.length = d.length ∧ (∀ s ∈ ss, s.Ok ∧ s.cnt ≤ mx) ∧ μ' = mset (mset μ q (pl a b)) pf (.lst ((ss.map stepD).map .d)) ∧ ρ' = [some (rv q), some (lv (ns.map .int)), some (iv (m : Int)), some (iv (mx : Int)), some (rv pf), x, y],
    rfl, ⟨[], a, b, none, none, rfl, (fun s hs => nomatch hs), rfl, rfl⟩, fun d r ρ μ e h => trivial, fun d i r ρ μ' e hv => ?_, fun ρ μ' hv => ?_⟩
  · obtain ⟨ss, a2, b2, x, y, hss, hok, rfl, rfl⟩ := hv
    have hdl : d.length < m := by
      have := congrArg List.length e
      rw [List.length_range, List.length_append, List.length_cons] at this
      omega
    have hqv : ∀ (a b : Int) (o : RO), mset (mset μ q (pl a b)) pf o q = some (pl a b) := fun a b o => by rw [mset_ne (Ne.symm hne)]; exact mset_same
    refine g_name 5 ?_ sc_mksteps.nd
    refine s_cons ?_
    refine s_set 6 ?_ sc_mksteps.nd -- _law_count
    refine d_add ?_
    refine d_int ?_
    refine d_call c_take hr (by decide) rfl ?_
    refine d_cons ?_
    refine d_var 0 rfl ?_ -- _law_pool_here
    refine d_cons ?_
    refine d_ix ?_
    refine d_lst ?_
    refine d_cons ?_
    refine d_int ?_
    refine d_cons ?_
    refine d_var 3 rfl ?_ -- _law_most
    refine d_nil ?_
    refine ⟨by simp, .inl ⟨List.map PyData.int [_, _], rfl, ?_⟩⟩
    refine d_call c_take hr (by decide) rfl ?_
    refine d_cons ?_
    refine d_var 0 rfl ?_ -- _law_pool_here
    refine d_cons ?_
    refine d_int ?_
    refine d_nil ?_
    refine ⟨q, a2, b2, 2, by decide, by decide, rfl, hqv _ _ _, fun r1 a3 b3 h0 h1 => ?_⟩ -- _law_take
    rw [mset_mid hne]
    obtain ⟨n1, hn1, hmem⟩ := at_int (l := [1, (mx : Int)]) h0 h1
    have hn2 : 0 < n1 ∧ n1 ≤ mx := by
      simp only [List.mem_cons, List.not_mem_nil, or_false] at hmem
      omega
    refine ⟨_, _, _, .lst _, rfl, hn1, ?_⟩
    refine d_nil ?_
    refine ⟨q, a3, b3, n1, hn2.1, by omega, rfl, hqv _ _ _, fun r2 a4 b4 h2 h3 => ?_⟩ -- _law_take
    rw [mset_mid hne]
    refine ⟨_, _, rfl, rfl, ?_⟩
    obtain ⟨c, rfl⟩ := Int.eq_ofNat_of_zero_le h2
    rw [show (1 : Int) + ((c : Nat) : Int) = ((1 + c : Nat) : Int) by omega]
    have hc : 1 ≤ 1 + c ∧ 1 + c ≤ mx := by omega
    refine s_one ?_
    refine s_if (dT.mono (kT := fun t μ1 => ∃ (a5 b5 : Int), μ1 = mset (mset μ q (pl a5 b5)) pf (.lst ((ss.map stepD).map .d)) ∧ (t = false → 0 < ns.length)) ?_ fun t μ1 ht => ?_)
    · refine d_tW ?_
      refine d_wor ?_
      refine d_tcmp (op_eqD hr.units) rfl ?_
      refine d_var 1 rfl ?_ -- _law_numbers_here
      refine d_lst ?_
      refine d_nil ?_
      refine ⟨by simp, .inl ⟨[], rfl, ?_⟩⟩
      refine dr_eqG ⟨_, _, 1, 1, rfl, rfl, gd_intL 0 _, gd_nilL 0, by decide, by decide, fun h => ⟨_, rfl, fun _ => ?_, fun h => absurd h (by decide)⟩, fun h => ⟨_, rfl, fun h => absurd h (by decide), fun _ => ?_⟩⟩
      · exact ⟨a4, b4, rfl, fun h => absurd h (by decide)⟩
      have hns : 0 < ns.length := by
        cases ns with
        | nil => exact absurd rfl h
        | cons _ _ => exact Nat.succ_pos _
      refine d_wor1 ?_
      refine d_tcmp op_lt rfl ?_
      refine d_call c_take hr (by decide) rfl ?_
      refine d_cons ?_
      refine d_var 0 rfl ?_ -- _law_pool_here
      refine d_cons ?_
      refine d_int ?_
      refine d_nil ?_
      refine ⟨q, a4, b4, 5, by decide, by decide, rfl, hqv _ _ _, fun r3 a5 b5 h4 h5 => ?_⟩ -- _law_take
      rw [mset_mid hne]
      refine d_int ?_
      exact dr_c ⟨_, _, rfl, rfl, _, rfl, a5, b5, rfl, fun _ => hns⟩
    obtain ⟨a5, b5, rfl, hns⟩ := ht
    refine ⟨fun _ => ?_, fun hf => ?_⟩
    · refine s_one ?_
      refine s_expr ?_
      refine d_append ?_
      refine d_var 4 rfl ?_ -- _law_found
      refine ⟨pf, _, rfl, mset_same, ?_⟩
      refine d_tup ?_
      refine d_cons ?_
      refine d_str ?_
      refine d_cons ?_
      refine d_var 6 rfl ?_ -- _law_count
      refine d_nil ?_
      refine ⟨[.str "pop", .int ((1 + c : Nat) : Int)], rfl, by simp, ?_⟩
      refine ⟨_, mset_same, by rw [List.length_map, List.length_map]; omega, ?_⟩
      rw [mset_mset]
      refine ⟨ss ++ [.pop (1 + c)], a5, b5, _, _, by rw [List.length_append, List.length_append, hss]; rfl, fun s hs => ?_, ?_, rfl⟩
      · rcases List.mem_append.mp hs with z | z
        · exact hok s z
        · rw [List.mem_singleton.mp z]; exact ⟨hc.1, hc.2⟩
      · rw [List.map_append, List.map_append]; rfl
    have hns := hns hf
    refine s_one ?_
    refine s_expr ?_
    refine d_append ?_
    refine d_var 4 rfl ?_ -- _law_found
    refine ⟨pf, _, rfl, mset_same, ?_⟩
    refine d_tup ?_
    refine d_cons ?_
    refine d_str ?_
    refine d_cons ?_
    refine d_ix ?_
    refine d_var 1 rfl ?_ -- _law_numbers_here
    refine d_call c_take hr (by decide) rfl ?_
    refine d_cons ?_
    refine d_var 0 rfl ?_ -- _law_pool_here
    refine d_cons ?_
    refine d_len rfl B.len ?_
    refine d_var 1 rfl ?_ -- _law_numbers_here
    refine ⟨_, .lst _, ?_⟩
    rw [List.length_map, List.length_map]
    refine d_nil ?_
    refine ⟨q, a5, b5, _, by omega, by omega, rfl, hqv _ _ _, fun r4 a6 b6 h6 h7 => ?_⟩ -- _law_take
    rw [mset_mid hne]
    obtain ⟨x1, hx1, _⟩ := at_int (l := ns) h6 h7
    refine ⟨_, _, _, .lst _, rfl, hx1, ?_⟩
    refine d_cons ?_
    refine d_var 6 rfl ?_ -- _law_count
    refine d_nil ?_
    refine ⟨[.str "push", .int x1, .int ((1 + c : Nat) : Int)], rfl, by simp, ?_⟩
    refine ⟨_, mset_same, by rw [List.length_map, List.length_map]; omega, ?_⟩
    rw [mset_mset]
    refine ⟨ss ++ [.push x1 (1 + c)], a6, b6, _, _, by rw [List.length_append, List.length_append, hss]; rfl, fun s hs => ?_, ?_, rfl⟩
    · rcases List.mem_append.mp hs with z | z
      · exact hok s z
      · rw [List.mem_singleton.mp z]; exact ⟨hc.1, hc.2⟩
    · rw [List.map_append, List.map_append]; rfl
  · obtain ⟨ss, a2, b2, x, y, hss, hok, rfl, rfl⟩ := hv
    rw [List.length_range] at hss
    refine s_one ?_
    refine s_ret ?_
    refine d_frz ?_
    refine d_var 4 rfl ?_ -- _law_found
    refine ⟨pf, ss.map stepD, rfl, mset_same, ?_⟩
    rw [mdel_mset (by rw [mset_ne hne]; exact hpf)]
    exact hk ss a2 b2 (by omega) hok
end
end K87
end

section
set_option Elab.async false
set_option linter.all false
set_option maxRecDepth 100000
set_option maxHeartbeats 1100000
set_option autoImplicit false
namespace K87M
theorem canon_one (x : Int) : Canon [(x, 1)] := canon_runs [x]
theorem runs_snoc_eq {d : List Int} {a : List (Int × Nat)} {x : Int} {c : Nat} (e : runs d = a ++ [(x, c)]) : runs (d ++ [x]) = a ++ [(x, c + 1)] := by
  have h := runs_same a [] x c 1 (by rw [← e]; exact canon_runs d) (canon_one x)
  have h1 : flat (a ++ [(x, c)]) = d := by rw [← e]; exact flat_runs d
  have h2 : flat [(x, 1)] = [x] := rfl
  rw [h1, h2] at h
  exact h
theorem runs_snoc_ne {d : List Int} {a : List (Int × Nat)} {x y : Int} {c : Nat} (e : runs d = a ++ [(y, c)]) (h : y ≠ x) : runs (d ++ [x]) = runs d ++ [(x, 1)] := by
  have h0 := runs_apart (runs d) [(x, 1)] (canon_runs d) (canon_one x) fun u v hu hv => by
    rw [e, List.getLast?_append] at hu
    cases hu
    cases hv
    exact h
  have h1 : flat (runs d) = d := flat_runs d
  have h2 : flat [(x, 1)] = [x] := rfl
  rw [h1, h2] at h0
  exact h0
end K87M
namespace K87
open PySem PySem.Spec PyProof.Rows L2 K87M
theorem ixN_last (n : Nat) : ixN (n + 1) (-1) = some n := by
  unfold ixN
  rw [if_neg (by decide), if_pos (by omega)]
  congr 1
  omega
section
variable {P : Program} {w : World} {K : PySem.W.Frag} {mg : Str → Option Value} {base : Heap} {f : Addr} {fd : FuncData}
/-! ### _law_runs -/
def fsLRuns : FS := ret fun as r => ∃ h : List Int, h.length < 900000 ∧ as = [lv (h.map .int)] ∧ r = stk h
theorem sc_lruns : FnScope ["_law_heap_here", "_law_found", "_law_number"] ["_law_heap_here"] (C8.fnScope (top 56)) := C8.fnScope_by (by decide +kernel)
theorem cal_lruns (D : C8.Def K mg "_law_runs" (top 56) f fd) (b : Binds K fd ["_law_heap_here"] []) (B : Bl mg) : C8.Cal P w K mg base 1 "_law_runs" (spF K fsLRuns) [] := by
  refine calD D b sc_lruns (fun as μ k F ⟨_, ⟨n, _, h, _⟩, _⟩ => by rw [h]; rfl) fun cdv A outer s H E hr as μ k F ⟨r, ⟨g, hl, h, hr'⟩, hk⟩ => ?_
  subst h hr'
  refine s_cons ?_
  refine s_set 1 ?_ sc_lruns.nd -- _law_found
  refine d_lst ?_
  refine d_nil ?_
  refine ⟨by simp, .inr fun pf hpf => ?_⟩
  refine s_cons ?_
  refine s_forL PassesOwn.never rfl ?_
  refine i_list ?_
  refine d_var 0 rfl ?_ -- _law_heap_here
  refine ⟨_, .lst _, _, g, fun x => iv x, fun d ρ' μ' => ∃ x : Option AV, μ' = mset μ pf (.lst (((runs d).map runD).map .d)) ∧ ρ' = [some (lv (g.map .int)), some (rv pf), x], by rw [List.map_map]; rfl, ⟨none, rfl, rfl⟩, fun d r ρ μ e h => .lst _, fun d a r ρ μ' e hv => ?_, fun ρ μ' hv => ?_⟩
  · obtain ⟨x, rfl, rfl⟩ := hv
    have hdl : d.length < g.length := by rw [e, List.length_append, List.length_cons]; omega
    have hrl := runs_len d
    refine g_name 2 ?_ sc_lruns.nd
    -- what the turn leaves
    have put : ∀ (ds : List PyData), ds = (runs (d ++ [a])).map runD → ∃ x' : Option AV, mset μ pf (.lst (ds.map .d)) = mset μ pf (.lst (((runs (d ++ [a])).map runD).map .d)) ∧ [some (lv (g.map .int)), some (rv pf), some (iv a)] = [some (lv (g.map .int)), some (rv pf), x'] := fun ds h => ⟨_, by rw [h], rfl⟩
    rcases List.eq_nil_or_concat (runs d) with h0 | ⟨i0, ⟨y, c⟩, h0⟩
    · have hd0 : d = [] := runs_eq_nil h0
      refine s_one ?_
      refine s_if ?_
      refine d_tW ?_
      refine d_wand ?_
      refine d_tcmp (op_neD hr.units) rfl ?_
      refine d_var 1 rfl ?_ -- _law_found
      refine d_lst ?_
      refine d_nil ?_
      refine ⟨by simp, .inl ⟨[], rfl, ?_⟩⟩
      refine dr_neO ⟨_, _, 2, 1, .own pf _ mset_same, .d _, gd_runsL 0 _, gd_nilL 0, by decide, by decide, fun h => ⟨_, rfl, fun h => absurd h (by decide), fun _ => ?_⟩, fun h => absurd (by rw [h0]; rfl) h⟩
      refine ⟨fun h => absurd h (by decide), fun _ => ?_⟩
      refine s_one ?_
      refine s_expr ?_
      refine d_append ?_
      refine d_var 1 rfl ?_ -- _law_found
      refine ⟨pf, _, rfl, mset_same, ?_⟩
      refine d_tup ?_
      refine d_cons ?_
      refine d_var 2 rfl ?_ -- _law_number
      refine d_cons ?_
      refine d_int ?_
      refine d_nil ?_
      refine ⟨[.int a, .int 1], rfl, by simp, ?_⟩
      refine ⟨_, mset_same, by rw [List.length_map, List.length_map]; omega, ?_⟩
      rw [mset_mset, h0]
      exact put [runD (a, 1)] (by rw [hd0]; rfl)
    · have hrd : runs d = i0 ++ [(y, c)] := by rw [h0, List.concat_eq_append]
      have hmap : ((runs d).map runD).map AV.d = (i0.map runD).map AV.d ++ [.d (runD (y, c))] := by rw [hrd, List.map_append, List.map_append]; rfl
      refine s_one ?_
      refine s_if ?_
      refine d_tW ?_
      refine d_wand ?_
      refine d_tcmp (op_neD hr.units) rfl ?_
      refine d_var 1 rfl ?_ -- _law_found
      refine d_lst ?_
      refine d_nil ?_
      refine ⟨by simp, .inl ⟨[], rfl, ?_⟩⟩
      refine dr_neO ⟨_, _, 2, 1, .own pf _ mset_same, .d _, gd_runsL 0 _, gd_nilL 0, by decide, by decide, fun h => ?_, fun h => ⟨_, rfl, fun _ => ?_, fun h => absurd h (by decide)⟩⟩
      · exfalso
        injection h with h
        rw [hrd] at h
        simp at h
      refine d_wand1 ?_
      refine d_tcmp (op_eqD hr.units) rfl ?_
      refine d_ix ?_
      refine d_ix ?_
      refine d_var 1 rfl ?_ -- _law_found
      refine d_neg ?_
      refine d_int ?_
      refine ⟨_, rfl, ?_⟩
      refine ⟨_, _, .d (runD (y, c)), .own pf _ mset_same, rfl, by rw [hmap]; exact atI_last _ _, ?_⟩
      refine d_int ?_
      refine ⟨_, _, iv y, .tup _, rfl, rfl, ?_⟩
      refine d_var 2 rfl ?_ -- _law_number
      refine dr_eqG ⟨_, _, 0, 0, rfl, rfl, .int _ _, .int _ _, by decide, by decide, fun h => ⟨_, rfl, fun _ => ?_, fun h => absurd h (by decide)⟩, fun h => ⟨_, rfl, fun h => absurd h (by decide), fun _ => ?_⟩⟩
      · have hya : y = a := by injection h
        subst hya
        refine s_one ?_
        refine s_asg ?_
        refine d_tup ?_
        refine d_cons ?_
        refine d_var 2 rfl ?_ -- _law_number
        refine d_cons ?_
        refine d_add ?_
        refine d_ix ?_
        refine d_ix ?_
        refine d_var 1 rfl ?_ -- _law_found
        refine d_neg ?_
        refine d_int ?_
        refine ⟨_, rfl, ?_⟩
        refine ⟨_, _, .d (runD (y, c)), .own pf _ mset_same, rfl, by rw [hmap]; exact atI_last _ _, ?_⟩
        refine d_int ?_
        refine ⟨_, _, iv c, .tup _, rfl, rfl, ?_⟩
        refine d_int ?_
        refine ⟨_, _, rfl, rfl, ?_⟩
        refine d_nil ?_
        refine ⟨[.int y, .int ((c : Int) + 1)], rfl, by simp, ?_⟩
        refine g_subL ?_
        refine d_var 1 rfl ?_
        refine d_neg ?_
        refine d_int ?_
        refine ⟨_, rfl, ?_⟩
        refine ⟨pf, _, _, i0.length, rfl, rfl, mset_same, ?_, ?_⟩
        · rw [List.length_map, List.length_map, hrd, List.length_append]
          exact ixN_last _
        rw [mset_mset, hmap]
        have es : ((i0.map runD).map AV.d ++ [AV.d (runD (y, c))]).set i0.length (tv [.int y, .int ((c : Int) + 1)]) = ((i0 ++ [(y, c + 1)]).map runD).map AV.d := by
          rw [List.set_append_right _ _ (by rw [List.length_map, List.length_map]; exact Nat.le_refl _), List.length_map, List.length_map, Nat.sub_self, List.map_append, List.map_append]
          rfl
        rw [es]
        exact put _ (by rw [runs_snoc_eq hrd])
      · have hya : y ≠ a := fun z => h (by rw [z])
        refine s_one ?_
        refine s_expr ?_
        refine d_append ?_
        refine d_var 1 rfl ?_ -- _law_found
        refine ⟨pf, _, rfl, mset_same, ?_⟩
        refine d_tup ?_
        refine d_cons ?_
        refine d_var 2 rfl ?_ -- _law_number
        refine d_cons ?_
        refine d_int ?_
        refine d_nil ?_
        refine ⟨[.int a, .int 1], rfl, by simp, ?_⟩
        refine ⟨_, mset_same, by rw [List.length_map, List.length_map]; omega, ?_⟩
        rw [mset_mset]
        have := put ((runs d).map runD ++ [runD (a, 1)]) (by rw [runs_snoc_ne hrd hya, List.map_append]; rfl)
        rw [List.map_append] at this
        exact this
  · obtain ⟨x, rfl, rfl⟩ := hv
    refine s_one ?_
    refine s_ret ?_
    refine d_drop pf ?_
    refine d_tuple rfl B.tuple ?_
    refine d_var 1 rfl ?_ -- _law_found
    refine ⟨(runs g).map runD, .own pf _ mset_same, ?_⟩
    rw [mdel_mset hpf]
    exact hk
end
end K87
end

section
set_option Elab.async false
set_option linter.all false
set_option maxRecDepth 100000
set_option maxHeartbeats 1100000
set_option autoImplicit false
namespace K87
open PySem PySem.Spec PyProof.Rows L2 K87M
/-- y = [.. for x in ..] -/
theorem s_setLc1 {X : Cx} {E : XK} {F : KF} {ρ : Env'} {μ : Mu} {scope : Scope} {iter elt : Expr} {ifs : List Expr} {pos : Pos} (i l : Nat) (own : List (Str × Nat)) {N : DN} {x y : Str} {p py spos : Pos} (hc : X.calm = true) (hN : X.N.Nodup) (ok : BlkOk X.N X.env.scope scope own)
    (h : dI X E F (.Name x p) iter ρ μ (LcW X scope (own.map (·.2)) (fun a ρ => some (ρ.set i (some a))) ifs elt ρ fun a μ1 => N.nx (ρ.set l (some a)) μ1))
    (hsw : swapsWith (.ListComp elt [⟨.Name x p, iter, ifs, 0⟩] scope pos) (some (.Name y py)) spos.line X.env = pure true) (ho : own.map (·.2) = [i] := by rfl) (hi : X.N[i]? = some x := by rfl)
    (hx : scope.names.lookup x = some .local := by rfl) (hy : X.N[l]? = some y := by rfl) (hyl : X.env.scope.names.lookup y = some .local := by rfl) (hs : ∀ x, foldedSetIterable iter X.env x = pure x := by intro _; rfl) :
    dS X E F (.Assign [.Name y py] (.ListComp elt [⟨.Name x p, iter, ifs, 0⟩] scope pos) spos) ρ μ N :=
  s_setLc l hc hN ok (bg1 i hN hi hx) (by rw [ho]; exact bd_name i) hsw h hy hyl hs
def listL (h : List Int) : PyData := .list (h.map .int)
def optL : Option (List Int) → PyData
  | some g => listL g
  | none => .none
section
variable {P : Program} {w : World} {K : PySem.W.Frag} {mg : Str → Option Value} {base : Heap} {f : Addr} {fd : FuncData}
/-! ### _law_heap -/
def fsHeap : FS := fun as μ k _ => ∃ (q : Addr) (a b : Int) (ns : List Int) (mx : Nat), mx < 1000 ∧ ns.length < 1000 ∧ as = [rv q, lv (ns.map .int), iv (mx : Int)] ∧ μ q = some (pl a b) ∧ ∀ (h : List Int) a' b', Dec h → h.length ≤ mx → k (.d (listL h)) (mset μ q (pl a' b'))
theorem sc_heap : FnScope ["_law_pool_here", "_law_numbers_here", "_law_most", "_law_found", "_law_turn_here"] ["_law_pool_here", "_law_numbers_here", "_law_most"] (C8.fnScope (top 57)) := C8.fnScope_by (by decide +kernel)
theorem cal_heap (D : C8.Def K mg "_law_heap" (top 57) f fd) (b : Binds K fd ["_law_pool_here", "_law_numbers_here", "_law_most"] []) (B : Bl mg) (c_take : C8.Cal P w K mg base 1 "_law_take" (spF K fsTake) []) : C8.Cal P w K mg base 2 "_law_heap" (spF K fsHeap) [] := by
  refine calD D b sc_heap (fun as μ k F ⟨_, _, _, _, _, _, _, h, _⟩ => by rw [h]; rfl) fun cdv A outer s H E hr as μ k F ⟨q, a, b, ns, mx, hm, hnl, h, hq, hk⟩ => ?_
  subst h
  refine s_cons ?_
  refine s_setLc1 4 3 [("_law_turn_here", 4)] rfl sc_heap.nd (blkOk_by (N := ["_law_pool_here", "_law_numbers_here", "_law_most", "_law_found", "_law_turn_here"]) (sc := C8.fnScope (top 57)) (by decide +kernel)) ?_ (sw_true rfl rfl rfl (by decide +kernel))
  refine i_range1 rfl B.range ?_
  refine d_cons ?_
  refine d_mul ?_
  refine d_call c_take hr (by decide) rfl ?_
  refine d_cons ?_
  refine d_var 0 rfl ?_ -- _law_pool_here
  refine d_cons ?_
  refine d_add ?_
  refine d_var 2 rfl ?_ -- _law_most
  refine d_int ?_
  refine ⟨_, _, rfl, rfl, ?_⟩
  refine d_nil ?_
  refine ⟨q, a, b, _, by omega, by omega, rfl, hq, fun r a1 b1 h0 h1 => ?_⟩ -- _law_take
  refine dE.mono (k := fun z μ1 => ∃ t : Bool, (t = true → 0 < ns.length) ∧ z = iv (if t = true then 1 else 0) ∧ μ1 = mset μ q (pl a1 b1)) ?_ fun z μ1 hz => ?_
  · refine d_intB rfl B.int ?_
    refine d_cmp (op_neD hr.units) rfl ?_
    refine d_var 1 rfl ?_ -- _law_numbers_here
    refine d_lst ?_
    refine d_nil ?_
    refine ⟨by simp, .inl ⟨[], rfl, ?_⟩⟩
    refine dr_neG ⟨_, _, 1, 1, rfl, rfl, gd_intL 0 _, gd_nilL 0, by decide, by decide, fun h => ⟨false, rfl, false, fun h => absurd h (by decide), rfl, rfl⟩, fun h => ⟨true, rfl, true, fun _ => ?_, rfl, rfl⟩⟩
    cases ns with
    | nil => exact absurd rfl h
    | cons _ _ => exact Nat.succ_pos _
  obtain ⟨t, ht, rfl, rfl⟩ := hz
  refine ⟨_, _, rfl, rfl, .inr (by split <;> decide), ?_⟩
  refine d_nil ?_
  refine ⟨_, rfl, ?_, ?_, ?_⟩
  · split <;> omega
  · split <;> omega
  refine ⟨fun i acc μ' => ∃ (hs : List Int) (a b : Int), hs.length = i ∧ acc = hs.map iv ∧ μ' = mset μ q (pl a b), ⟨[], a1, b1, rfl, rfl, rfl⟩, fun i acc μ' hi hv => ?_, fun i y acc μ' hy hv => ?_, fun acc μ' hv => ?_⟩
  · obtain ⟨hs, a, b, rfl, rfl, rfl⟩ := hv
    rw [rangeA_len] at hi
    refine ⟨trivial, ?_⟩
    rw [List.length_map]
    have : (r * if t = true then 1 else 0).toNat ≤ 1000 := by split <;> omega
    omega
  · obtain ⟨hs, a, b, rfl, rfl, rfl⟩ := hv
    obtain ⟨hi, rfl⟩ := rangeA_get hy
    have hns : 0 < ns.length := by
      cases t with
      | true => exact ht rfl
      | false => simp at hi
    refine ⟨_, rfl, ?_⟩
    refine ⟨fun _ => ?_, fun h => absurd h (by decide)⟩
    intro s H0 C cl fp
    refine d_ix ?_
    refine d_var 1 rfl ?_ -- _law_numbers_here
    refine d_call c_take hr (by decide) rfl ?_
    refine d_cons ?_
    refine d_var 0 rfl ?_ -- _law_pool_here
    refine d_cons ?_
    refine d_len rfl B.len ?_
    refine d_var 1 rfl ?_ -- _law_numbers_here
    refine ⟨_, .lst _, ?_⟩
    rw [List.length_map, List.length_map]
    refine d_nil ?_
    refine ⟨q, a, b, _, by omega, by omega, rfl, mset_same, fun r2 a2 b2 h2 h3 => ?_⟩ -- _law_take
    rw [mset_mset]
    obtain ⟨x1, hx1, _⟩ := at_int (l := ns) h2 h3
    refine ⟨_, _, _, .lst _, rfl, hx1, ?_⟩
    exact ⟨hs ++ [x1], a2, b2, by simp, by simp, rfl⟩
  · obtain ⟨hs, a2, b2, hl, rfl, rfl⟩ := hv
    rw [rangeA_len] at hl
    have hle : hs.length ≤ mx := by
      have : (r * if t = true then 1 else 0).toNat ≤ mx := by split <;> omega
      omega
    refine .inl ⟨hs.map .int, ints_map hs, ?_⟩
    refine s_one ?_
    refine s_ret ?_
    refine d_revL ?_
    refine d_sortedI rfl B.sorted ?_
    refine d_var 3 rfl ?_ -- _law_found
    refine ⟨hs, by rw [ints_map]; exact .lst _, fun ms hp hsrt => ?_⟩
    refine ⟨_, .lst _, .inl ⟨(ms.reverse).map .int, by rw [← List.map_reverse, ← List.map_reverse], ?_⟩⟩
    refine hk ms.reverse a2 b2 ?_ (by rw [List.length_reverse, hp.length_eq]; exact hle)
    unfold Dec
    rw [List.pairwise_reverse]
    exact hsrt
end
end K87
end

section
set_option Elab.async false
set_option linter.all false
set_option maxRecDepth 100000
set_option maxHeartbeats 1100000
set_option autoImplicit false
namespace K87
open PySem PySem.Spec PyProof.Rows L2 K87M
/-- what stands behind j turns of a push -/
def upn (h : List Int) (x : Int) (j : Nat) : List Int := if j = 0 then h else up h x ++ List.replicate j x
theorem upn_step (h : List Int) (x : Int) (j : Nat) : up (upn h x j) x ++ [x] = upn h x (j + 1) := by
  unfold upn
  rw [if_neg (Nat.succ_ne_zero j)]
  by_cases h0 : j = 0
  · subst h0; rfl
  · rw [if_neg h0, up_append, up_rep, up_all fun y hy => (mem_up.mp hy).2, List.append_assoc, List.replicate_succ']
theorem upn_len (h : List Int) (x : Int) (j : Nat) : (upn h x j).length ≤ h.length + j := by
  unfold upn
  split
  · omega
  · have : (up h x).length ≤ h.length := List.length_filter_le _ _
    rw [List.length_append, List.length_replicate]; omega
theorem take_pop {h : List Int} {j : Nat} (hj : j < h.length) : ∃ y, h.take (h.length - j) = h.take (h.length - (j + 1)) ++ [y] := by
  refine ⟨h[h.length - (j + 1)], ?_⟩
  rw [show h.length - j = (h.length - (j + 1)) + 1 by omega, List.take_succ_eq_append_getElem (by omega)]
theorem fm_filter (l : List Int) (p : Int → Bool) : (l.filterMap fun y => if p y = true then some (PyData.int y) else none) = (l.filter p).map .int := by
  induction l with
  | nil => rfl
  | cons a l ih =>
    rw [List.filterMap_cons]
    by_cases h : p a = true
    · rw [if_pos h, List.filter_cons, if_pos h, List.map_cons, ih]
    · rw [if_neg h, List.filter_cons, if_neg h, ih]
section
variable {P : Program} {w : World} {K : PySem.W.Frag} {mg : Str → Option Value} {base : Heap} {f : Addr} {fd : FuncData}
/-! ### _law_done -/
def fsDone : FS := ret fun as r => ∃ (h : List Int) (s : K87M.Step), h.length + s.cnt < 900000 ∧ s.Ok ∧ as = [.d (listL h), .d (stepD s)] ∧ r = optL (aft h s)
theorem sc_done : FnScope ["_law_heap_here", "_law_step", "_law_found", "_law_turn_here", "_law_number"] ["_law_heap_here", "_law_step"] (C8.fnScope (top 58)) := C8.fnScope_by (by decide +kernel)
theorem cal_done (D : C8.Def K mg "_law_done" (top 58) f fd) (b : Binds K fd ["_law_heap_here", "_law_step"] []) (B : Bl mg) : C8.Cal P w K mg base 1 "_law_done" (spF K fsDone) [] := by
  refine calD D b sc_done (fun as μ k F ⟨_, ⟨_, _, _, _, h, _⟩, _⟩ => by rw [h]; rfl) fun cdv A outer s H E hr as μ k F ⟨r, ⟨g, st, hl, ok, h, hr'⟩, hk⟩ => ?_
  subst h hr'
  cases st with
  | pop c =>
    have hc : 1 ≤ c := ok
    have hl' : g.length + c < 900000 := hl
    refine s_cons ?_
    refine s_set 2 ?_ sc_done.nd -- _law_found
    refine d_list rfl B.list ?_
    refine d_var 0 rfl ?_ -- _law_heap_here
    refine ⟨_, .lst _, .inr fun pf hpf => ?_⟩
    refine s_cons ?_
    refine s_forL PassesOwn.never rfl ?_
    refine i_range1 rfl B.range ?_
    refine d_cons ?_
    refine d_ix ?_
    refine d_var 1 rfl ?_ -- _law_step
    refine d_neg ?_
    refine d_int ?_
    refine ⟨_, rfl, ?_⟩
    refine ⟨_, _, iv c, .tup _, rfl, rfl, ?_⟩
    refine d_nil ?_
    refine ⟨_, rfl, by omega, by omega, ?_⟩
    refine ⟨_, List.range ((c : Int)).toNat, fun i => iv (0 + (i : Int)), fun d ρ' μ' => ∃ (x y : Option AV), d.length ≤ g.length ∧ μ' = mset μ pf (.lst (((g.take (g.length - d.length)).map .int).map .d)) ∧ ρ' = [some (.d (listL g)), some (.d (stepD (.pop c))), some (rv pf), x, y],
      rfl, ⟨none, none, Nat.zero_le _, by rw [show g.take (g.length - ([] : List Nat).length) = g by simp], rfl⟩, fun d r ρ μ e h => trivial, fun d i r ρ μ' e hv => ?_, fun ρ μ' hv => ?_⟩
    · obtain ⟨x, y, hd, rfl, rfl⟩ := hv
      have hdl : d.length < c := by
        have := congrArg List.length e
        rw [List.length_range, List.length_append, List.length_cons] at this
        omega
      refine g_name 3 ?_ sc_done.nd
      refine s_one ?_
      refine s_if ?_
      refine d_tcmp (op_eqD hr.units) rfl ?_
      refine d_ix ?_
      refine d_var 1 rfl ?_ -- _law_step
      refine d_int ?_
      refine ⟨_, _, sv "pop", .tup _, rfl, rfl, ?_⟩
      refine d_str ?_
      refine dr_eqG ⟨_, _, 0, 0, rfl, rfl, .str _ _ str_pop, .str _ _ str_pop, by decide, by decide, fun h => ⟨_, rfl, fun _ => ?_, fun h => absurd h (by decide)⟩, fun h => absurd rfl h⟩
      refine s_cons ?_
      refine s_if ?_
      refine d_tcmp (op_eqD hr.units) rfl ?_
      refine d_var 2 rfl ?_ -- _law_found
      refine d_lst ?_
      refine d_nil ?_
      refine ⟨by simp, .inl ⟨[], rfl, ?_⟩⟩
      refine dr_eqO ⟨_, _, 1, 1, .own pf _ mset_same, .d _, gd_intL 0 _, gd_nilL 0, by decide, by decide, fun h => ⟨_, rfl, fun _ => ?_, fun h => absurd h (by decide)⟩, fun h => ⟨_, rfl, fun h => absurd h (by decide), fun _ => ?_⟩⟩
      · have h0 := intL_nil.mp h
        have hg : g.length = d.length := by
          have := congrArg List.length h0
          rw [List.length_take, List.length_nil] at this
          omega
        refine s_drop pf ?_
        rw [mdel_mset hpf]
        refine s_one ?_
        refine s_ret ?_
        refine d_non ?_
        have ea : aft g (.pop c) = none := if_neg (by omega)
        rw [ea] at hk
        exact hk
      · have hg : d.length < g.length := by
          rcases Nat.lt_or_ge d.length g.length with z | z
          · exact z
          · exact absurd (by rw [show g.length - d.length = 0 by omega]; rfl) h
        obtain ⟨y1, hy1⟩ := take_pop hg
        refine s_nil ?_
        refine s_one ?_
        refine s_expr ?_
        refine d_pop ?_
        refine d_var 2 rfl ?_ -- _law_found
        refine ⟨pf, ((g.take (g.length - (d.length + 1))).map PyData.int).map AV.d, iv y1, rfl, by rw [mset_same, hy1, List.map_append, List.map_append]; rfl, ?_⟩
        rw [mset_mset]
        exact ⟨_, _, by rw [List.length_append]; exact hg, by rw [List.length_append]; rfl, rfl⟩
    · obtain ⟨x, y, hd, rfl, rfl⟩ := hv
      rw [List.length_range] at hd
      rw [List.length_range]
      refine s_one ?_
      refine s_ret ?_
      refine d_frz ?_
      refine d_var 2 rfl ?_ -- _law_found
      refine ⟨pf, _, rfl, mset_same, ?_⟩
      rw [mdel_mset hpf]
      have ea : aft g (.pop c) = some (g.take (g.length - c)) := if_pos (by omega)
      rw [ea] at hk
      rw [show ((c : Int)).toNat = c by omega]
      exact hk
  | push x c =>
    have hc : 1 ≤ c := ok
    have hl' : g.length + c < 900000 := hl
    refine s_cons ?_
    refine s_set 2 ?_ sc_done.nd -- _law_found
    refine d_list rfl B.list ?_
    refine d_var 0 rfl ?_ -- _law_heap_here
    refine ⟨_, .lst _, .inl ⟨g.map .int, rfl, ?_⟩⟩
    refine s_cons ?_
    refine s_forL PassesOwn.never rfl ?_
    refine i_range1 rfl B.range ?_
    refine d_cons ?_
    refine d_ix ?_
    refine d_var 1 rfl ?_ -- _law_step
    refine d_neg ?_
    refine d_int ?_
    refine ⟨_, rfl, ?_⟩
    refine ⟨_, _, iv c, .tup _, rfl, rfl, ?_⟩
    refine d_nil ?_
    refine ⟨_, rfl, by omega, by omega, ?_⟩
    refine ⟨_, List.range ((c : Int)).toNat, fun i => iv (0 + (i : Int)), fun d ρ' μ' => ∃ (y z : Option AV), μ' = μ ∧ ρ' = [some (.d (listL g)), some (.d (stepD (.push x c))), some (.d (listL (upn g x d.length))), y, z],
      rfl, ⟨none, none, rfl, rfl⟩, fun d r ρ μ e h => trivial, fun d i r ρ μ' e hv => ?_, fun ρ μ' hv => ?_⟩
    · obtain ⟨y, z, rfl, rfl⟩ := hv
      have hdl : d.length < c := by
        have := congrArg List.length e
        rw [List.length_range, List.length_append, List.length_cons] at this
        omega
      have hul := upn_len g x d.length
      refine g_name 3 ?_ sc_done.nd
      refine s_one ?_
      refine s_if ?_
      refine d_tcmp (op_eqD hr.units) rfl ?_
      refine d_ix ?_
      refine d_var 1 rfl ?_ -- _law_step
      refine d_int ?_
      refine ⟨_, _, sv "push", .tup _, rfl, rfl, ?_⟩
      refine d_str ?_
      refine dr_eqG ⟨_, _, 0, 0, rfl, rfl, .str _ _ str_push, .str _ _ str_pop, by decide, by decide, fun h => absurd h.symm push_ne_pop, fun h => ⟨_, rfl, fun h => absurd h (by decide), fun _ => ?_⟩⟩
      refine s_one ?_
      refine s_set 2 ?_ sc_done.nd -- _law_found
      refine d_catL ?_
      refine d_lc1 4 [("_law_number", 4)] rfl sc_done.nd (blkOk_by (N := ["_law_heap_here", "_law_step", "_law_found", "_law_turn_here", "_law_number"]) (sc := C8.fnScope (top 58)) (by decide +kernel)) ?_
      refine i_list ?_
      refine d_var 2 rfl ?_ -- _law_found
      refine ⟨_, .lst _, lcF_lcW ⟨.lst _, _, upn g x d.length, fun a => iv a, fun a => if decide (x ≤ a) = true then some (PyData.int a) else none, by rw [List.map_map]; rfl, by omega, fun a ha => ?_, ?_⟩⟩
      · refine ⟨_, rfl, ?_⟩
        intro s H0 C cl fp
        refine d_tcmp op_ge rfl ?_
        refine d_var 4 rfl ?_ -- _law_number
        refine d_ix ?_
        refine d_var 1 rfl ?_ -- _law_step
        refine d_int ?_
        refine ⟨_, _, iv x, .tup _, rfl, rfl, ?_⟩
        refine dr_c ⟨_, _, rfl, rfl, _, rfl, ?_⟩
        refine ⟨rfl, fun h => ?_, fun h => ?_⟩
        · have h' : decide (x ≤ a) = false := h
          exact if_neg (by rw [h']; decide)
        intro s H0 C cl fp
        refine d_var 4 rfl ?_ -- _law_number
        have h' : decide (x ≤ a) = true := h
        exact ⟨rfl, _, if_pos h', rfl⟩
      rw [fm_filter]
      refine d_lst ?_
      refine d_cons ?_
      refine d_ix ?_
      refine d_var 1 rfl ?_ -- _law_step
      refine d_int ?_
      refine ⟨_, _, iv x, .tup _, rfl, rfl, ?_⟩
      refine d_nil ?_
      refine ⟨by simp, .inl ⟨[.int x], rfl, ?_⟩⟩
      have eu : ((upn g x d.length).filter fun a => decide (x ≤ a)).map PyData.int ++ [PyData.int x] = (upn g x (d.length + 1)).map PyData.int := by
        rw [← upn_step, List.map_append]; rfl
      refine ⟨_, _, .lst _, .lst _, ?_, .inl ⟨(upn g x (d.length + 1)).map .int, ?_, ?_⟩⟩
      · rw [List.length_map, List.length_map, List.length_map]
        have : ((upn g x d.length).filter fun a => decide (x ≤ a)).length ≤ (upn g x d.length).length := List.length_filter_le _ _
        (simp only [List.length_cons, List.length_nil]); omega
      · rw [← List.map_append, eu]
      · exact ⟨_, _, rfl, by rw [List.length_append]; rfl⟩
    · obtain ⟨y, z, rfl, rfl⟩ := hv
      rw [List.length_range]
      refine s_one ?_
      refine s_ret ?_
      refine d_var 2 rfl ?_ -- _law_found
      have e1 : upn g x ((c : Int)).toNat = up g x ++ List.replicate c x := by
        rw [show ((c : Int)).toNat = c by omega]
        unfold upn
        rw [if_neg (by omega)]
      rw [e1]
      exact hk
/-! ### _law_run -/
def runL : List Int ⊕ Nat → PyData
  | .inl g => listL g
  | .inr i => .int (i : Int)
def fsLRun : FS := ret fun as r => ∃ (h : List Int) (ss : List K87M.Step), h.length + total ss < 900000 ∧ (∀ s ∈ ss, s.Ok) ∧ as = [.d (listL h), lv (ss.map stepD)] ∧ r = runL (runF h 0 ss)
theorem sc_lrun : FnScope ["_law_heap_here", "_law_steps_here", "_law_at", "_law_step"] ["_law_heap_here", "_law_steps_here"] (C8.fnScope (top 59)) := C8.fnScope_by (by decide +kernel)
theorem cal_lrun (D : C8.Def K mg "_law_run" (top 59) f fd) (b : Binds K fd ["_law_heap_here", "_law_steps_here"] []) (B : Bl mg) (c_done : C8.Cal P w K mg base 1 "_law_done" (spF K fsDone) []) : C8.Cal P w K mg base 2 "_law_run" (spF K fsLRun) [] := by
  refine calD D b sc_lrun (fun as μ k F ⟨_, ⟨_, _, _, _, h, _⟩, _⟩ => by rw [h]; rfl) fun cdv A outer s H E hr as μ k F ⟨r, ⟨g, ss, hl, ok, h, hr'⟩, hk⟩ => ?_
  subst h hr'
  refine s_cons ?_
  refine s_forL PassesOwn.never rfl ?_
  refine i_enumL rfl B.enumerate ?_
  refine d_var 1 rfl ?_
  refine ⟨_, .lst _, fun x hx j z e => ?_, _, ss.zipIdx, fun p => tv [.int (p.2 : Int), stepD p.1], fun d ρ' μ' => μ' = μ ∧ ∃ (h : List Int) (x y : Option AV), runF g 0 (d.map (·.1)) = .inl h ∧ ρ' = [some (.d (listL h)), some (lv (ss.map stepD)), x, y], enAll_steps ss, ⟨rfl, g, none, none, rfl, rfl⟩, fun d r ρ μ e h => .lst _, fun d p r ρ μ' hd hv => ?_, fun ρ μ' hv => ?_⟩
  · obtain ⟨_, _, e'⟩ := List.mem_map.mp hx
    rw [e] at e'; cases e'
  · obtain ⟨rfl, h, x, y, hrun, rfl⟩ := hv
    have hp2 : p.2 = d.length := by
      have h1 : (ss.zipIdx)[d.length]? = some p := by rw [hd]; simp
      rw [List.getElem?_zipIdx] at h1
      cases e : ss[d.length]? with
      | none => rw [e] at h1; cases h1
      | some s => rw [e] at h1; cases h1; simp
    have hss : ss = d.map (·.1) ++ p.1 :: r.map (·.1) := by
      have h1 : ss.zipIdx.map (·.1) = (d ++ p :: r).map (·.1) := by rw [hd]
      simpa using h1
    have hmem : p.1 ∈ ss := by rw [hss]; simp
    have hlen := runF_len hrun
    have htot : total ss = total (d.map (·.1)) + (p.1.cnt + total (r.map (·.1))) := by
      conv => lhs; rw [hss]
      rw [total_app, total_cons]
    have hsn := runF_snoc p.1 hrun
    rw [List.length_map] at hsn
    refine g_tup rfl ⟨_, rfl, rfl, ?_⟩
    refine gs_cons (g_name 2 ?_ sc_lrun.nd)
    refine gs_cons (g_name 3 ?_ sc_lrun.nd)
    refine gs_nil ?_
    refine s_cons ?_
    refine s_set 0 ?_ sc_lrun.nd
    refine d_call c_done hr (by decide) rfl ?_
    refine d_cons ?_
    refine d_var 0 rfl ?_
    refine d_cons ?_
    refine d_var 3 rfl ?_
    refine d_nil ?_
    refine ⟨_, ⟨h, p.1, by omega, ok _ hmem, rfl, rfl⟩, ?_⟩
    cases hs : aft h p.1 with
    | none =>
      rw [hs] at hsn
      have hall : runF g 0 ss = .inr d.length := by
        conv => lhs; rw [hss, show d.map (·.1) ++ p.1 :: r.map (·.1) = (d.map (·.1) ++ [p.1]) ++ r.map (·.1) by simp]
        exact runF_stop hsn
      refine s_one ?_
      refine s_if ?_
      refine d_tcmp op_isN rfl ?_
      refine d_var 0 rfl ?_
      refine d_non ?_
      refine dr_isN ⟨true, rfl, .inl ⟨rfl, rfl⟩, _, rfl, fun _ => ?_, fun h => absurd h (by decide)⟩
      refine s_one ?_
      refine s_ret ?_
      refine d_var 2 rfl ?_
      rw [hp2]
      rw [hall] at hk
      exact hk
    | some h1 =>
      rw [hs] at hsn
      refine s_one ?_
      refine s_if ?_
      refine d_tcmp op_isN rfl ?_
      refine d_var 0 rfl ?_
      refine d_non ?_
      refine dr_isN ⟨false, rfl, .inr ⟨fun K G v r => by
        cases r with
        | lst _ _ => exact fun z => (nomatch z), rfl⟩, _, rfl, fun h => absurd h (by decide), fun _ => ?_⟩
      refine s_nil ?_
      exact ⟨rfl, h1, _, _, by rw [List.map_append]; exact hsn, rfl⟩
  · obtain ⟨rfl, h, x, y, hrun, rfl⟩ := hv
    have e1 : ss.zipIdx.map (·.1) = ss := by simp
    rw [e1] at hrun
    rw [hrun] at hk
    refine s_one ?_
    refine s_ret ?_
    refine d_var 0 rfl ?_
    exact hk
end
end K87
end

section
set_option Elab.async false
set_option linter.all false
set_option maxRecDepth 100000
set_option maxHeartbeats 1100000
set_option autoImplicit false
namespace K87M
/-- a step's effect by units: what stands behind j of them -/
def effU (e : Eff) : Step → Nat → Eff
  | .push x _, j => if j = 0 then e else eff e (.push x j)
  | .pop _, j => eff e (.pop j)
theorem pushU_s (e : Eff) (x : Int) (c j : Nat) : effU e (.push x c) (j + 1) = eff e (.push x (j + 1)) := by
  show (if j + 1 = 0 then e else eff e (.push x (j + 1))) = _
  rw [if_neg (Nat.succ_ne_zero j)]
theorem effU_0 (e : Eff) (s : Step) : effU e s 0 = e := by
  cases s with
  | push x c => rfl
  | pop c =>
    show (⟨e.cuts.map (sh (0 - e.new.length)), e.drops + (0 - e.new.length), e.new.take (e.new.length - 0)⟩ : Eff) = e
    rw [Nat.zero_sub, sh_zero, Nat.add_zero, Nat.sub_zero, List.take_length]
theorem effU_all (e : Eff) (s : Step) (ok : s.Ok) : effU e s s.cnt = eff e s := by
  cases s with
  | push x c => exact if_neg (by have : 1 ≤ c := ok; show ¬ c = 0; omega)
  | pop c => rfl
theorem popU_more {e : Eff} {c j : Nat} (h : j < e.new.length) : effU e (.pop c) (j + 1) = ⟨(effU e (.pop c) j).cuts, (effU e (.pop c) j).drops, e.new.take (e.new.length - (j + 1))⟩ := by
  show (⟨e.cuts.map (sh (j + 1 - e.new.length)), e.drops + (j + 1 - e.new.length), _⟩ : Eff) = ⟨e.cuts.map (sh (j - e.new.length)), e.drops + (j - e.new.length), _⟩
  rw [show j + 1 - e.new.length = 0 by omega, show j - e.new.length = 0 by omega]
theorem popU_drop {e : Eff} {c j : Nat} (h : e.new.length ≤ j) : effU e (.pop c) (j + 1) = ⟨((effU e (.pop c) j).cuts).map (sh 1), (effU e (.pop c) j).drops + 1, (effU e (.pop c) j).new⟩ := by
  show (⟨e.cuts.map (sh (j + 1 - e.new.length)), e.drops + (j + 1 - e.new.length), e.new.take (e.new.length - (j + 1))⟩ : Eff) = ⟨(e.cuts.map (sh (j - e.new.length))).map (sh 1), e.drops + (j - e.new.length) + 1, e.new.take (e.new.length - j)⟩
  rw [show j + 1 - e.new.length = (j - e.new.length) + 1 by omega, show e.new.length - (j + 1) = 0 by omega, show e.new.length - j = 0 by omega, List.map_map]
  congr 1
theorem up_nil_iff {h : List Int} (d : Dec h) (x : Int) : up h x = [] ↔ h = [] ∨ ∀ y, h.head? = some y → y < x := by
  constructor
  · intro hu
    cases h with
    | nil => exact .inl rfl
    | cons y t =>
      right
      intro z hz
      cases hz
      rcases Int.lt_or_le y x with q | q
      · exact q
      · have : y ∈ up (y :: t) x := mem_up.mpr ⟨List.mem_cons_self .., q⟩
        rw [hu] at this; cases this
  · rintro (rfl | h1)
    · rfl
    · refine up_none fun y hy => ?_
      cases h with
      | nil => cases hy
      | cons z t =>
        have := h1 z rfl
        have := head_all d (y := z) rfl y hy
        omega
theorem pushU {e : Eff} {x : Int} {c j : Nat} (d : Dec e.new) : effU e (.push x c) (j + 1) = ⟨if ((up (effU e (.push x c) j).new x ++ [x]).length = 1) then (effU e (.push x c) j).cuts ++ [(x, 0)] else (effU e (.push x c) j).cuts, (effU e (.push x c) j).drops, up (effU e (.push x c) j).new x ++ [x]⟩ := by
  rw [pushU_s]
  cases j with
  | zero =>
    have h0 : effU e (.push x c) 0 = e := rfl
    rw [h0]
    show (⟨if e.new = [] ∨ ∀ y, e.new.head? = some y → y < x then e.cuts ++ [(x, 0)] else e.cuts, e.drops, up e.new x ++ List.replicate 1 x⟩ : Eff) = _
    have e1 : ((up e.new x ++ [x]).length = 1) ↔ (e.new = [] ∨ ∀ y, e.new.head? = some y → y < x) := by
      rw [← up_nil_iff d, List.length_append, List.length_singleton]
      constructor
      · intro h; exact List.eq_nil_of_length_eq_zero (by omega)
      · intro h; rw [h]; rfl
    congr 1
    by_cases q : e.new = [] ∨ ∀ y, e.new.head? = some y → y < x
    · rw [if_pos q, if_pos (e1.mpr q)]
    · rw [if_neg q, if_neg (fun z => q (e1.mp z))]
  | succ j =>
    rw [pushU_s]
    have e2 : up (up e.new x ++ List.replicate (j + 1) x) x ++ [x] = up e.new x ++ List.replicate (j + 2) x := by
      rw [up_append, up_rep, up_all fun y hy => (mem_up.mp hy).2, List.append_assoc, ← List.replicate_succ']
    have e3 : ¬ (up e.new x ++ List.replicate (j + 2) x).length = 1 := by rw [List.length_append, List.length_replicate]; omega
    show (⟨_, _, up e.new x ++ List.replicate (j + 2) x⟩ : Eff) = ⟨if (up (up e.new x ++ List.replicate (j + 1) x) x ++ [x]).length = 1 then _ else _, _, up (up e.new x ++ List.replicate (j + 1) x) x ++ [x]⟩
    rw [e2, if_neg e3]
    rfl
theorem effU_len (e : Eff) (s : Step) (j : Nat) (hj : j ≤ s.cnt) : (effU e s j).cuts.length ≤ e.cuts.length + 1 ∧ (effU e s j).new.length ≤ e.new.length + j := by
  cases s with
  | push x c =>
    cases j with
    | zero => rw [effU_0]; omega
    | succ j =>
      rw [pushU_s]
      exact eff_bound e (.push x (j + 1))
  | pop c =>
    show (e.cuts.map _).length ≤ _ ∧ (e.new.take _).length ≤ _
    rw [List.length_map, List.length_take]
    omega
end K87M
namespace K87
open PySem PySem.Spec PyProof.Rows L2 K87M
section
variable {X : Cx} {E : XK} {F : KF} {ρ : Env'} {μ : Mu} {N : DN} {scope : Scope}
/-- a, b, c = e1, e2, e3 -/
theorem s_par3 {x y z : Str} {a b c : Expr} {px py pz pt pos : Pos} {kt k2 pt2} (i j l : Nat) (hc : X.calm = true) (hN : X.N.Nodup)
    (h : dA X E F [a, b, c] ρ μ fun as μ1 => ∃ u v w, as = [u, v, w] ∧ N.nx (((ρ.set i (some u)).set j (some v)).set l (some w)) μ1)
    (hw : swappedStores [.Tuple [.Name x px, .Name y py, .Name z pz] kt pt] (.Tuple [a, b, c] k2 pt2) X.env = pure (some [x, y, z])) (hi : X.N[i]? = some x := by rfl) (hj : X.N[j]? = some y := by rfl) (hl : X.N[l]? = some z := by rfl) (hij : i ≠ j := by decide) (hil : i ≠ l := by decide) (hjl : j ≠ l := by decide)
    (hx : X.env.scope.names.lookup x = some .local := by rfl) (hy : X.env.scope.names.lookup y = some .local := by rfl) (hz : X.env.scope.names.lookup z = some .local := by rfl)
    (hs : swapsWithSole [.Tuple [.Name x px, .Name y py, .Name z pz] kt pt] (.Tuple [a, b, c] k2 pt2) pos.line X.env = (pure false) := by rfl) :
    dS X E F (.Assign [.Tuple [.Name x px, .Name y py, .Name z pz] kt pt] (.Tuple [a, b, c] k2 pt2) pos) ρ μ N := fun σ G H sr m pf D po => by
  refine w_ps (ps_par3 hc hN hi hj hl hij hil hjl hx hy hz pa_w hw hs) ?_
  refine h σ G H sr m pf _ fun vs as G1 μ1 H1 ⟨u, v, w', e, hn⟩ st m1 rs => ?_
  subst e
  cases rs with
  | cons r1 t1 =>
    cases t1 with
    | cons r2 t2 =>
      cases t2 with
      | cons r3 t3 =>
        cases t3
        exact ⟨_, _, _, rfl, po.nx _ _ G1 μ1 H1 hn st m1 ((((sr.ext st.ex).set i r1).set j r2).set l r3)⟩
/-- a comprehension whose items are data, its list new -/
def LcN (X : Cx) (scope : Scope) (vs : List Nat) (bind : AV → Env' → Option Env') (ifs : List Expr) (elt : Expr) (ρ : Env') (k : KV') : List AV → (Mu → Prop) → Mu → Prop := fun xs Pm μ1 =>
  Pm μ1 ∧ ∃ (α : Type) (l : List α) (enc : α → AV) (f : α → Option PyData), xs = l.map enc ∧ l.length < 1000000 ∧
    (∀ a ∈ l, ∃ ρ', bind (enc a) (wipeR ρ vs) = some ρ' ∧ dbTs X scope ifs ρ' μ1 fun b μ2 => μ2 = μ1 ∧ (b = false → f a = none) ∧ (b = true → dbE X scope elt ρ' μ1 fun z μ3 => μ3 = μ1 ∧ ∃ w, f a = some w ∧ z = .d w)) ∧ NewL μ1 ((l.filterMap f).map .d) k
theorem lcN_lcW {bind : AV → Env' → Option Env'} {ifs : List Expr} {elt : Expr} {k : KV'} {vs : List Nat} {xs : List AV} {Pm : Mu → Prop} {μ1 : Mu} (h : LcN X scope vs bind ifs elt ρ k xs Pm μ1) : LcW X scope vs bind ifs elt ρ k xs Pm μ1 := by
  obtain ⟨pm, α, l, enc, f, rfl, hl, ht, q⟩ := h
  refine ⟨fun i acc μ' => μ' = μ1 ∧ acc = ((l.take i).filterMap f).map .d, ⟨rfl, rfl⟩, fun i acc μ' hi hv => ?_, fun i y acc μ' hy hv => ?_, fun acc μ' hv => ?_⟩
  · obtain ⟨rfl, rfl⟩ := hv
    have h1 := List.length_filterMap_le f (l.take i)
    rw [List.length_take] at h1
    exact ⟨pm, by rw [List.length_map]; omega⟩
  · obtain ⟨rfl, rfl⟩ := hv
    rw [List.getElem?_map] at hy
    cases ha : l[i]? with
    | none => rw [ha] at hy; cases hy
    | some a =>
      rw [ha] at hy
      cases hy
      have et : l.take (i + 1) = l.take i ++ [a] := by rw [List.take_add_one, ha]; rfl
      obtain ⟨ρ', h1, h2⟩ := ht a (List.mem_of_getElem? ha)
      refine ⟨ρ', h1, dbTs_mono h2 fun b μ2 ⟨e, hf, hb⟩ => ⟨fun z => ?_, fun z => ?_⟩⟩
      · subst e
        intro s H0 C cl fp
        refine (hb z s H0 C cl fp).mono fun v μ3 ⟨e3, w, hw, hv⟩ => ⟨e3, ?_⟩
        rw [et, List.filterMap_append, List.map_append, hv]
        simp [hw]
      · refine ⟨e, ?_⟩
        rw [et, List.filterMap_append]
        simp [hf z]
  · obtain ⟨rfl, rfl⟩ := hv
    (rw [List.length_map, List.take_length]); exact q
end
end K87
end

section
set_option Elab.async false
set_option linter.all false
set_option maxRecDepth 100000
set_option maxHeartbeats 1100000
set_option autoImplicit false
namespace K87
open PySem PySem.Spec PyProof.Rows L2 K87M
theorem s_dropN {X : Cx} {E : XK} {F : KF} {ρ : Env'} {μ : Mu} {N : DN} {st : Stmt} (p : Addr) (h : dS X E F st ρ μ { N with nx := fun ρ' μ' => N.nx ρ' (mdel μ' p) }) : dS X E F st ρ μ N := fun σ G H sr m pf D po =>
  h σ G H sr m pf D ⟨fun σ' ρ' G' μ' H' h1 s1 m1 sr1 => po.nx σ' ρ' G' (mdel μ' p) H' h1 (s1.trans (Stp.drop p)) (m1.drop p) sr1, po.rt, po.bk, po.ct⟩
theorem mdel3 {μ : Mu} {p r q : Addr} {a b c : RO} (h1 : p ≠ r) (h2 : q ≠ p) (h3 : q ≠ r) (hp : μ p = none) : mdel (mset (mset (mset μ p a) r b) q c) p = mset (mset μ q c) r b := by
  funext x
  unfold mdel mset
  by_cases e1 : x = p
  · subst e1; rw [if_pos rfl, if_neg h1, if_neg (Ne.symm h2)]; exact hp.symm
  · rw [if_neg e1, if_neg e1]
    by_cases e2 : x = q
    · subst e2; rw [if_pos rfl, if_neg h3, if_pos rfl]
    · rw [if_neg e2, if_neg e2]
theorem mdel3' {μ : Mu} {p r q : Addr} {a b c : RO} (h1 : p ≠ r) (h3 : q ≠ r) (hr : μ r = none) : mdel (mset (mset (mset μ p a) r b) q c) r = mset (mset μ p a) q c := by
  funext x
  unfold mdel mset
  by_cases e1 : x = r
  · subst e1; rw [if_pos rfl, if_neg (Ne.symm h3), if_neg (Ne.symm h1)]; exact hr.symm
  · rw [if_neg e1, if_neg e1]
theorem new_ne2 {μ : Mu} {p r q : Addr} {a b : RO} (h : mset (mset μ p a) r b q = none) : q ≠ r ∧ q ≠ p ∧ μ q = none := by
  obtain ⟨h1, h2⟩ := new_ne h
  obtain ⟨h3, h4⟩ := new_ne h2
  exact ⟨h1, h3, h4⟩
def stepL : K87M.Step → List PyData
  | .push x c => [.str "push", .int x, .int c]
  | .pop c => [.str "pop", .int c]
theorem stepD_L (s : K87M.Step) : stepD s = .tuple (stepL s) := by cases s <;> rfl
theorem stepL_last (s : K87M.Step) : atI ((stepL s).map AV.d) (-1) = some (iv (s.cnt : Int)) := by cases s <;> rfl
/-- cuts and new as own lists -/
def cutO (C : List Pr) : RO := .lst ((C.map runD).map .d)
def newO (n : List Int) : RO := .lst ((n.map PyData.int).map .d)
theorem cutO_sh (C : List Pr) : cutO (C.map (sh 1)) = .lst ((C.map fun a => runD (sh 1 a)).map .d) := by unfold cutO; rw [List.map_map (l := C)]; rfl
theorem cutO_snoc (C : List Pr) (p : Pr) : cutO (C ++ [p]) = .lst ((C.map runD).map .d ++ [.d (runD p)]) := by unfold cutO; rw [List.map_append, List.map_append]; rfl
def EffI (μ : Mu) (stp : List PyData) (s4 : Option AV → Prop) (e : Eff) (ρ' : Env') (μ' : Mu) : Prop := ∃ (pc pn : Addr) (x4 x5 x6 x7 x8 : Option AV), pc ≠ pn ∧ μ pc = none ∧ μ pn = none ∧ s4 x4 ∧ μ' = mset (mset μ pc (cutO e.cuts)) pn (newO e.new) ∧ ρ' = [some (lv stp), some (rv pc), some (iv (e.drops : Int)), some (rv pn), x4, x5, x6, x7, x8]
theorem gd_cutL (n : Nat) (C : List Pr) : Gd (n + 2) (.list (C.map runD)) := gd_runsL n C
section
variable {P : Program} {w : World} {K : PySem.W.Frag} {mg : Str → Option Value} {base : Heap} {f : Addr} {fd : FuncData}
def fsLEff : FS := ret fun as r => ∃ ss : List K87M.Step, ss.length < 50000 ∧ total ss < 50000 ∧ (∀ s ∈ ss, s.Ok) ∧ as = [lv (ss.map stepD)] ∧ r = encE (effs ss)
abbrev NE : List Str := ["_law_steps_here", "_law_cuts", "_law_drops", "_law_new", "_law_step", "_law_turn_here", "_law_pairs", "_law_number", "_law_after"]
theorem sc_leff : FnScope NE ["_law_steps_here"] (C8.fnScope (top 60)) := C8.fnScope_by (by decide +kernel)
theorem cal_leff (D : C8.Def K mg "_law_effect" (top 60) f fd) (b : Binds K fd ["_law_steps_here"] []) (B : Bl mg) (c_lruns : C8.Cal P w K mg base 1 "_law_runs" (spF K fsLRuns) []) : C8.Cal P w K mg base 2 "_law_effect" (spF K fsLEff) [] := by
  refine calD D b sc_leff (fun as μ k F ⟨_, ⟨_, _, _, _, h, _⟩, _⟩ => by rw [h]; rfl) fun cdv A outer s H E hr as μ k F ⟨r, ⟨ss, hl, ht, ok, h, hr'⟩, hk⟩ => ?_
  subst h hr'
  refine s_cons ?_
  refine s_par3 1 2 3 rfl sc_leff.nd ?_ rfl
  refine d_cons ?_
  refine d_lst ?_
  refine d_nil ?_
  refine ⟨by simp, .inr fun pc hpc => ?_⟩
  refine d_cons ?_
  refine d_int ?_
  refine d_cons ?_
  refine d_lst ?_
  refine d_nil ?_
  refine ⟨by simp, .inr fun pn hpn => ?_⟩
  obtain ⟨hne, hpn0⟩ := new_ne hpn
  refine d_nil ?_
  refine ⟨_, _, _, rfl, ?_⟩
  refine s_cons ?_
  refine s_forL PassesOwn.never rfl ?_
  refine i_list ?_
  refine d_var 0 rfl ?_ -- _law_steps_here
  refine ⟨_, .lst _, _, ss, fun s => .d (stepD s), fun d ρ' μ' => EffI μ (ss.map stepD) (fun _ => True) (effs d) ρ' μ', by rw [List.map_map]; rfl, ⟨pc, pn, none, none, none, none, none, Ne.symm hne, hpc, hpn0, trivial, rfl, rfl⟩, fun d r ρ μ e h => .lst _, fun d st r ρ μ' e hv => ?_, fun ρ μ' hv => ?_⟩
  · obtain ⟨pc, pn, x4, x5, x6, x7, x8, hne, hpc, hpn, _, rfl, rfl⟩ := hv
    have hst : st.Ok := ok st (by rw [e]; simp)
    have hd_ok : ∀ s ∈ d, s.Ok := fun s hs => ok s (by rw [e]; exact List.mem_append_left _ hs)
    have form := form_effs hd_ok
    have hlen := effs_len d
    have htl := total_le e
    refine g_name 4 ?_ sc_leff.nd
    refine s_one ?_
    refine s_forL PassesOwn.never rfl ?_
    refine i_range1 rfl B.range ?_
    refine d_cons ?_
    refine d_ix ?_
    refine d_var 4 rfl ?_ -- _law_step
    refine d_neg ?_
    refine d_int ?_
    refine ⟨_, rfl, ?_⟩
    refine ⟨_, _, iv (st.cnt : Int), by show SeqA _ (.d (stepD st)) _; rw [stepD_L]; exact .tup _, rfl, stepL_last st, ?_⟩
    refine d_nil ?_
    refine ⟨_, rfl, by omega, by omega, ?_⟩
    refine ⟨_, List.range ((st.cnt : Int)).toNat, fun i => iv (0 + (i : Int)), fun dn ρ' μ' => EffI μ (ss.map stepD) (fun x => x = some (.d (stepD st))) (effU (effs d) st dn.length) ρ' μ', rfl, ⟨pc, pn, _, x5, x6, x7, x8, hne, hpc, hpn, rfl, by rw [show ([] : List Nat).length = 0 from rfl, effU_0], by rw [show ([] : List Nat).length = 0 from rfl, effU_0]; rfl⟩, fun d r ρ μ e h => trivial, fun dn i rn ρ μ' en hv => ?_, fun ρ μ' hv => ?_⟩
    · obtain ⟨pc, pn, x4, x5, x6, x7, x8, hne, hpc, hpn, rfl, rfl, rfl⟩ := hv
      have hdn : dn.length < st.cnt := by
        have := congrArg List.length en
        rw [List.length_range, List.length_append, List.length_cons] at this
        omega
      have hdn1 : (dn ++ [i]).length = dn.length + 1 := by rw [List.length_append]; rfl
      have hul := effU_len (effs d) st dn.length (Nat.le_of_lt hdn)
      have getC : ∀ C n, mset (mset μ pc (cutO C)) pn (newO n) pc = some (cutO C) := fun C n => by rw [mset_ne hne]; exact mset_same
      refine g_name 5 ?_ sc_leff.nd
      cases st with
      | pop c =>
        refine s_one ?_
        refine s_if (dT.mono (kT := fun t μ1 => μ1 = mset (mset μ pc (cutO (effU (effs d) (.pop c) dn.length).cuts)) pn (newO (effU (effs d) (.pop c) dn.length).new) ∧ t = decide (dn.length < (effs d).new.length)) ?_ fun t μ1 h => ?_)
        · refine d_tW ?_
          refine d_wand ?_
          refine d_tcmp (op_eqD hr.units) rfl ?_
          refine d_ix ?_
          refine d_var 4 rfl ?_ -- _law_step
          refine d_int ?_
          refine ⟨_, _, sv "pop", .tup _, rfl, rfl, ?_⟩
          refine d_str ?_
          refine dr_eqG ⟨_, _, 0, 0, rfl, rfl, .str _ _ str_pop, .str _ _ str_pop, by decide, by decide, fun h => ⟨_, rfl, fun _ => ?_, fun h => absurd h (by decide)⟩, fun h => absurd rfl h⟩
          refine d_wand1 ?_
          refine d_tcmp (op_neD hr.units) rfl ?_
          refine d_var 3 rfl ?_ -- _law_new
          refine d_lst ?_
          refine d_nil ?_
          refine ⟨by simp, .inl ⟨[], rfl, ?_⟩⟩
          refine dr_neO ⟨_, _, 1, 1, .own pn _ mset_same, .d _, gd_intL 0 _, gd_nilL 0, by decide, by decide, fun h => ⟨_, rfl, rfl, ?_⟩, fun h => ⟨_, rfl, rfl, ?_⟩⟩
          · have h0 := congrArg List.length (intL_nil.mp h)
            have h1 : (effU (effs d) (.pop c) dn.length).new.length = min ((effs d).new.length - dn.length) (effs d).new.length := List.length_take
            (rw [h1, List.length_nil] at h0); exact (decide_eq_false (by omega)).symm
          · rcases Nat.lt_or_ge dn.length (effs d).new.length with z | z
            · exact (decide_eq_true z).symm
            · exfalso
              refine h (congrArg PyData.list ?_)
              show ((effs d).new.take ((effs d).new.length - dn.length)).map PyData.int = []
              rw [show (effs d).new.length - dn.length = 0 by omega]; rfl
        obtain ⟨rfl, htq⟩ := h
        refine ⟨fun hb => ?_, fun hb => ?_⟩
        · have hj : dn.length < (effs d).new.length := of_decide_eq_true (htq.symm.trans hb)
          obtain ⟨y1, hy1⟩ := take_pop hj
          refine s_one ?_
          refine s_expr ?_
          refine d_pop ?_
          refine d_var 3 rfl ?_ -- _law_new
          refine ⟨pn, (((effs d).new.take ((effs d).new.length - (dn.length + 1))).map PyData.int).map AV.d, iv y1, rfl, ?_, ?_⟩
          · rw [mset_same]
            show some (RO.lst ((((effs d).new.take ((effs d).new.length - dn.length)).map PyData.int).map AV.d)) = _
            rw [hy1, List.map_append, List.map_append]; rfl
          rw [mset_mset]
          exact ⟨pc, pn, _, some (iv (0 + (i : Int))), x6, x7, x8, hne, hpc, hpn, rfl, by rw [hdn1, popU_more hj]; rfl, by rw [hdn1, popU_more hj]; rfl⟩
        · have hj : (effs d).new.length ≤ dn.length := Nat.le_of_not_lt (of_decide_eq_false (htq.symm.trans hb))
          refine s_one ?_
          refine s_if ?_
          refine d_tcmp (op_eqD hr.units) rfl ?_
          refine d_ix ?_
          refine d_var 4 rfl ?_ -- _law_step
          refine d_int ?_
          refine ⟨_, _, sv "pop", .tup _, rfl, rfl, ?_⟩
          refine d_str ?_
          refine dr_eqG ⟨_, _, 0, 0, rfl, rfl, .str _ _ str_pop, .str _ _ str_pop, by decide, by decide, fun h => ⟨_, rfl, fun _ => ?_, fun h => absurd h (by decide)⟩, fun h => absurd rfl h⟩
          refine s_cons ?_
          refine s_set 2 ?_ sc_leff.nd -- _law_drops
          refine d_add ?_
          refine d_var 2 rfl ?_ -- _law_drops
          refine d_int ?_
          refine ⟨_, _, rfl, rfl, ?_⟩
          refine s_one ?_
          refine s_dropN pc ?_
          refine s_setLc2 7 8 1 [("_law_number", 7), ("_law_after", 8)] rfl sc_leff.nd (blkOk_by (N := NE) (sc := C8.fnScope (top 60)) (by decide +kernel)) ?_ (sw_true rfl rfl rfl (by decide +kernel))
          refine i_list ?_
          refine d_var 1 rfl ?_ -- _law_cuts
          refine ⟨_, .own pc _ (getC _ _), lcN_lcW ⟨.own pc _ (getC _ _), _, (effU (effs d) (.pop c) dn.length).cuts, fun a => .d (runD a), fun a => some (runD (sh 1 a)), by rw [List.map_map]; rfl, by omega, fun a ha => ?_, ?_⟩⟩
          · refine ⟨_, rfl, ?_⟩
            refine ⟨rfl, fun h => absurd h (by decide), fun _ => ?_⟩
            intro s H0 C cl fp
            refine d_tup ?_
            refine d_cons ?_
            refine d_var 7 rfl ?_ -- _law_number
            refine d_cons ?_
            refine d_add ?_
            refine d_var 8 rfl ?_ -- _law_after
            refine d_int ?_
            refine ⟨_, _, rfl, rfl, ?_⟩
            refine d_nil ?_
            refine ⟨[.int a.1, .int ((a.2 : Int) + 1)], rfl, by simp, ?_⟩
            exact ⟨rfl, _, rfl, rfl⟩
          rw [List.filterMap_eq_map']
          refine .inr fun q hq => ?_
          obtain ⟨q1, q2, q3⟩ := new_ne2 hq
          show EffI _ _ _ _ _ (mdel (mset (mset (mset μ pc _) pn _) q _) pc)
          rw [mdel3 hne q2 q1 hpc]
          refine ⟨q, pn, _, some (iv (0 + (i : Int))), x6, x7, x8, q1, q3, hpn, rfl, ?_, ?_⟩
          · rw [hdn1, popU_drop hj, cutO_sh]
          · rw [hdn1, popU_drop hj]
            rfl
      | push x c =>
        have hpush := pushU (e := effs d) (x := x) (c := c) (j := dn.length) form.dec
        have test : ∀ (kT : Bool → Mu → Prop) (ρ0 : Env') (μ0 : Mu), True := fun _ _ _ => trivial
        refine s_one ?_
        refine s_if ?_
        refine d_tW ?_
        refine d_wand ?_
        refine d_tcmp (op_eqD hr.units) rfl ?_
        refine d_ix ?_
        refine d_var 4 rfl ?_ -- _law_step
        refine d_int ?_
        refine ⟨_, _, sv "push", .tup _, rfl, rfl, ?_⟩
        refine d_str ?_
        refine dr_eqG ⟨_, _, 0, 0, rfl, rfl, .str _ _ str_push, .str _ _ str_pop, by decide, by decide, fun h => absurd h.symm push_ne_pop, fun h => ⟨_, rfl, fun h => absurd h (by decide), fun _ => ?_⟩⟩
        refine ⟨fun h => absurd h (by decide), fun _ => ?_⟩
        refine s_one ?_
        refine s_if ?_
        refine d_tcmp (op_eqD hr.units) rfl ?_
        refine d_ix ?_
        refine d_var 4 rfl ?_ -- _law_step
        refine d_int ?_
        refine ⟨_, _, sv "push", .tup _, rfl, rfl, ?_⟩
        refine d_str ?_
        refine dr_eqG ⟨_, _, 0, 0, rfl, rfl, .str _ _ str_push, .str _ _ str_pop, by decide, by decide, fun h => absurd h.symm push_ne_pop, fun h => ⟨_, rfl, fun h => absurd h (by decide), fun _ => ?_⟩⟩
        refine s_cons ?_
        refine s_dropN pn ?_
        refine s_set 3 ?_ sc_leff.nd -- _law_new
        refine d_catL ?_
        refine d_lc1 7 [("_law_number", 7)] rfl sc_leff.nd (blkOk_by (N := NE) (sc := C8.fnScope (top 60)) (by decide +kernel)) ?_
        refine i_list ?_
        refine d_var 3 rfl ?_ -- _law_new
        refine ⟨_, .own pn _ mset_same, lcF_lcW ⟨.own pn _ mset_same, _, (effU (effs d) (.push x c) dn.length).new, fun a => iv a, fun a => if decide (x ≤ a) = true then some (PyData.int a) else none, by rw [List.map_map]; rfl, by omega, fun a ha => ?_, ?_⟩⟩
        · refine ⟨_, rfl, ?_⟩
          intro s H0 C cl fp
          refine d_tcmp op_ge rfl ?_
          refine d_var 7 rfl ?_ -- _law_number
          refine d_ix ?_
          refine d_var 4 rfl ?_ -- _law_step
          refine d_int ?_
          refine ⟨_, _, iv x, .tup _, rfl, rfl, ?_⟩
          refine dr_c ⟨_, _, rfl, rfl, _, rfl, ?_⟩
          refine ⟨rfl, fun h => ?_, fun h => ?_⟩
          · have h' : decide (x ≤ a) = false := h
            exact if_neg (by rw [h']; decide)
          intro s H0 C cl fp
          refine d_var 7 rfl ?_ -- _law_number
          have h' : decide (x ≤ a) = true := h
          exact ⟨rfl, _, if_pos h', rfl⟩
        rw [fm_filter]
        refine d_lst ?_
        refine d_cons ?_
        refine d_ix ?_
        refine d_var 4 rfl ?_ -- _law_step
        refine d_int ?_
        refine ⟨_, _, iv x, .tup _, rfl, rfl, ?_⟩
        refine d_nil ?_
        refine ⟨by simp, .inl ⟨[.int x], rfl, ?_⟩⟩
        have eu : ((effU (effs d) (.push x c) dn.length).new.filter fun a => decide (x ≤ a)).map PyData.int ++ [PyData.int x] = (effU (effs d) (.push x c) (dn.length + 1)).new.map PyData.int := by
          rw [hpush, List.map_append]; rfl
        have hul2 : (effU (effs d) (.push x c) (dn.length + 1)).new.length ≤ (effs d).new.length + (dn.length + 1) := (effU_len (effs d) (.push x c) (dn.length + 1) hdn).2
        refine ⟨_, _, .lst _, .lst _, ?_, .inr fun q hq => ?_⟩
        · rw [List.length_map, List.length_map, List.length_map]
          have : ((effU (effs d) (.push x c) dn.length).new.filter fun a => decide (x ≤ a)).length ≤ (effU (effs d) (.push x c) dn.length).new.length := List.length_filter_le _ _
          (simp only [List.length_cons, List.length_nil]); omega
        obtain ⟨q1, q2, q3⟩ := new_ne2 hq
        rw [← List.map_append, eu]
        show dSs _ _ _ _ _ (mdel (mset (mset (mset μ pc _) pn _) q _) pn) _
        rw [mdel3' hne q1 hpn]
        have hqc : pc ≠ q := Ne.symm q2
        refine s_one ?_
        refine s_if ?_
        refine d_tcmp (op_eqD hr.units) rfl ?_
        refine d_len rfl B.len ?_
        refine d_var 3 rfl ?_ -- _law_new
        refine ⟨_, .own q _ mset_same, ?_⟩
        rw [List.length_map, List.length_map]
        refine d_int ?_
        have en1 : (effU (effs d) (.push x c) (dn.length + 1)).new.length = (up (effU (effs d) (.push x c) dn.length).new x ++ [x]).length := by rw [hpush]
        refine dr_eqG ⟨_, _, 0, 0, rfl, rfl, .int _ _, .int _ _, by decide, by decide, fun h => ⟨_, rfl, fun _ => ?_, fun h => absurd h (by decide)⟩, fun h => ⟨_, rfl, fun h => absurd h (by decide), fun _ => ?_⟩⟩
        · have h1 : (up (effU (effs d) (.push x c) dn.length).new x ++ [x]).length = 1 := by
            injection h with h
            omega
          refine s_one ?_
          refine s_expr ?_
          refine d_append ?_
          refine d_var 1 rfl ?_ -- _law_cuts
          refine ⟨pc, _, rfl, by rw [mset_ne hqc]; exact mset_same, ?_⟩
          refine d_tup ?_
          refine d_cons ?_
          refine d_ix ?_
          refine d_var 4 rfl ?_ -- _law_step
          refine d_int ?_
          refine ⟨_, _, iv x, .tup _, rfl, rfl, ?_⟩
          refine d_cons ?_
          refine d_int ?_
          refine d_nil ?_
          refine ⟨[.int x, .int 0], rfl, by simp, ?_⟩
          refine ⟨_, by rw [mset_ne hqc]; exact mset_same, by rw [List.length_map, List.length_map]; omega, ?_⟩
          rw [mset_mid q2]
          refine ⟨pc, q, _, some (iv (0 + (i : Int))), x6, x7, x8, hqc, hpc, q3, rfl, ?_, ?_⟩
          · have e3 : effU (effs d) (.push x c) (dn.length + 1) = ⟨(effU (effs d) (.push x c) dn.length).cuts ++ [(x, 0)], (effU (effs d) (.push x c) (dn.length + 1)).drops, (effU (effs d) (.push x c) (dn.length + 1)).new⟩ := by
              conv => lhs; rw [hpush, if_pos h1]
              rw [hpush]
            rw [hdn1, e3, cutO_snoc]
            rfl
          · rw [hdn1, hpush]; rfl
        · have h1 : ¬ (up (effU (effs d) (.push x c) dn.length).new x ++ [x]).length = 1 := fun z => h (by rw [en1, z]; rfl)
          refine s_nil ?_
          refine ⟨pc, q, _, some (iv (0 + (i : Int))), x6, x7, x8, hqc, hpc, q3, rfl, ?_, ?_⟩
          · rw [hdn1, hpush, if_neg h1]
            rfl
          · rw [hdn1, hpush]; rfl
    · obtain ⟨pc, pn, x4, x5, x6, x7, x8, hne, hpc, hpn, rfl, rfl, rfl⟩ := hv
      have ec : (List.range ((st.cnt : Int)).toNat).length = st.cnt := by rw [List.length_range]; omega
      rw [ec, effU_all _ _ hst]
      refine ⟨pc, pn, some (.d (stepD st)), x5, x6, x7, x8, hne, hpc, hpn, trivial, ?_, ?_⟩
      · rw [effs_snoc]
      · rw [effs_snoc]
  · obtain ⟨pc, pn, x4, x5, x6, x7, x8, hne, hpc, hpn, _, rfl, rfl⟩ := hv
    have hlen := effs_len ss
    refine s_freeze 1 (q := pc) (ds := (effs ss).cuts.map runD) rfl (by rw [mset_ne hne]; exact mset_same) ?_
    refine s_freeze 3 (q := pn) (ds := (effs ss).new.map .int) rfl (by rw [mdel_ne (Ne.symm hne)]; exact mset_same) ?_
    have e1 : mdel (mdel (mset (mset μ pc (cutO (effs ss).cuts)) pn (newO (effs ss).new)) pc) pn = μ := by
      funext y
      unfold mdel mset
      by_cases h1 : y = pn
      · subst h1; rw [if_pos rfl]; exact hpn.symm
      · rw [if_neg h1]
        by_cases h2 : y = pc
        · subst h2; rw [if_pos rfl]; exact hpc.symm
        · rw [if_neg h2, if_neg h1, if_neg h2]
    rw [e1]
    refine s_cons ?_
    refine s_set 6 ?_ sc_leff.nd -- _law_pairs
    refine d_lst ?_
    refine d_nil ?_
    refine ⟨by simp, .inr fun p hp => ?_⟩
    refine s_cons ?_
    refine s_forL PassesOwn.never rfl ?_
    refine i_list ?_
    refine d_revL ?_
    refine d_sortedP rfl B.sorted ?_
    refine d_var 1 rfl ?_ -- _law_cuts
    refine ⟨_, (effs ss).cuts, .lst _, by rw [List.map_map]; rfl, ?_⟩
    refine ⟨_, .lst _, .inl ⟨((srt (effs ss).cuts).reverse).map runD, by rw [List.map_reverse, List.map_reverse], ?_⟩⟩
    refine ⟨_, .lst _, _, (srt (effs ss).cuts).reverse, fun r => .d (runD r), fun d ρ' μ' => μ' = mset μ p (cutO (scan none d)) ∧ ∃ (y4 y5 y7 y8 : Option AV), ρ' = [some (lv (ss.map stepD)), some (lv ((effs ss).cuts.map runD)), some (iv ((effs ss).drops : Int)), some (lv ((effs ss).new.map .int)), y4, y5, some (rv p), y7, y8], by rw [List.map_map]; rfl, ⟨rfl, _, _, _, _, rfl⟩, fun d r ρ μ e h => .lst _, fun d a r ρ μ' e h => ?_, fun ρ μ' h => ?_⟩
    · obtain ⟨rfl, y4, y5, y7, y8, rfl⟩ := h
      have hd : d.length < 1000000 := by
        have := congrArg List.length e
        rw [List.length_reverse, (srt_perm _).length_eq, List.length_append, List.length_cons] at this
        omega
      have hsl := scan_le d none
      refine g_tup rfl ⟨_, rfl, rfl, ?_⟩
      refine gs_cons (g_name 7 ?_ sc_leff.nd)
      refine gs_cons (g_name 8 ?_ sc_leff.nd)
      refine gs_nil ?_
      refine s_one ?_
      refine s_if (dT.mono (kT := fun t μ' => μ' = mset μ p (cutO (scan none d)) ∧ scan none (d ++ [a]) = scan none d ++ (if t = true then [a] else [])) ?_ fun t μ' h => ?_)
      · refine d_tW ?_
        refine d_wor ?_
        refine d_tcmp (op_eqD hr.units) rfl ?_
        refine d_var 6 rfl ?_ -- _law_pairs
        refine d_lst ?_
        refine d_nil ?_
        refine ⟨by simp, .inl ⟨[], rfl, ?_⟩⟩
        refine dr_eqO ⟨.list ((scan none d).map runD), _, 2, 1, .own p _ mset_same, .d _, gd_runsL 0 _, gd_nilL 0, by decide, by decide, fun h => ⟨_, rfl, fun _ => ⟨rfl, ?_⟩, fun h => absurd h (by decide)⟩, fun h => ⟨_, rfl, fun h => absurd h (by decide), fun _ => ?_⟩⟩
        · have e0 : scan none d = [] := rowsA_nil h
          rw [scan_snoc]
          unfold lastK
          rw [e0]; rfl
        have ne : scan none d ≠ [] := fun z => h (by rw [z]; rfl)
        have eL : scan none d = (scan none d).dropLast ++ [(scan none d).getLast ne] := (List.dropLast_concat_getLast ne).symm
        refine d_wor1 ?_
        refine d_tcmp op_gt rfl ?_
        refine d_var 8 rfl ?_ -- _law_after
        refine d_ix ?_
        refine d_ix ?_
        refine d_var 6 rfl ?_ -- _law_pairs
        refine d_neg ?_
        refine d_int ?_
        refine ⟨_, rfl, ?_⟩
        refine ⟨_, _, .d (runD ((scan none d).getLast ne)), .own p _ mset_same, rfl, ?_, ?_⟩
        · have hz := congrArg (fun l => (List.map runD l).map AV.d) eL
          simp only [List.map_append] at hz
          rw [hz]
          exact atI_last _ _
        refine d_int ?_
        refine ⟨_, _, iv ((scan none d).getLast ne).2, .tup _, rfl, rfl, ?_⟩
        refine dr_c ⟨_, _, rfl, rfl, _, rfl, ?_⟩
        refine ⟨rfl, ?_⟩
        rw [scan_snoc]
        have hk2 : lastK none d = some ((scan none d).getLast ne).2 := by
          unfold lastK
          rw [List.getLast?_eq_some_getLast ne]
        rw [hk2]
        by_cases c : ((scan none d).getLast ne).2 < a.2
        · simp [c]
        · simp [c]
      obtain ⟨rfl, hs⟩ := h
      refine ⟨fun ht => ?_, fun ht => ?_⟩
      · rw [if_pos ht] at hs
        refine s_one ?_
        refine s_expr ?_
        refine d_append ?_
        refine d_var 6 rfl ?_ -- _law_pairs
        refine ⟨p, _, rfl, mset_same, ?_⟩
        refine d_tup ?_
        refine d_cons ?_
        refine d_var 7 rfl ?_
        refine d_cons ?_
        refine d_var 8 rfl ?_
        refine d_nil ?_
        refine ⟨[.int a.1, .int a.2], rfl, by simp, ?_⟩
        refine ⟨_, mset_same, by rw [List.length_map, List.length_map]; omega, ?_⟩
        refine ⟨?_, _, _, _, _, rfl⟩
        rw [mset_mset, hs]
        unfold cutO
        rw [List.map_append, List.map_append]
        rfl
      · rw [if_neg (by rw [ht]; decide), List.append_nil] at hs
        refine s_nil ?_
        exact ⟨by rw [hs], _, _, _, _, rfl⟩
    · obtain ⟨rfl, y4, y5, y7, y8, rfl⟩ := h
      refine s_one ?_
      refine s_ret ?_
      refine d_drop p ?_
      refine d_tup ?_
      refine d_cons ?_
      refine d_tuple rfl B.tuple ?_
      refine d_revL ?_
      refine d_var 6 rfl ?_ -- _law_pairs
      refine ⟨_, .own p _ mset_same, .inl ⟨((scan none (srt (effs ss).cuts).reverse).reverse).map runD, by rw [← List.map_reverse, ← List.map_reverse], ?_⟩⟩
      refine ⟨_, .lst _, ?_⟩
      refine d_cons ?_
      refine d_var 2 rfl ?_
      refine d_cons ?_
      refine d_call c_lruns hr (by decide) rfl ?_
      refine d_cons ?_
      refine d_var 3 rfl ?_
      refine d_nil ?_
      refine ⟨_, ⟨(effs ss).new, by omega, rfl, rfl⟩, ?_⟩
      refine d_nil ?_
      refine ⟨[.tuple ((U (effs ss).cuts).map runD), .int ((effs ss).drops : Int), stk (effs ss).new], rfl, by simp, ?_⟩
      rw [mdel_mset hp]
      exact hk
end
end K87
end

section
set_option Elab.async false
set_option linter.all false
set_option maxRecDepth 100000
set_option maxHeartbeats 1100000
set_option autoImplicit false
namespace K87
open PySem PySem.Spec PyProof.Rows L2 K87M
theorem d_callC0 {X : Cx} {E : XK} {F : KF} {ρ : Env'} {μ : Mu} {k : KV'} {x : Str} {p pos : Pos} {lv' n : Nat} {fs : FS} (c : C8.Cal X.prog X.w X.K X.mg X.base lv' x (spF X.K fs) []) (hr : Room n X.A) (hle : lv' ≤ n) (hg : Gl X x) (h : fs [] μ k F0) (hdb : (x == ("__debug__" : Str)) = false := by decide) :
    dE X E F (.Call (.Name x p) [] [] pos) ρ μ k := by
  obtain ⟨f, fd, ps, ds, Fo, hm, kp, b, d⟩ := c.ex
  cases d
  exact d_call0 Fo (hr.mono hle) hg hm kp b h hdb
section
variable {P : Program} {w : World} {K : PySem.W.Frag} {mg : Str → Option Value} {base : Heap} {f : Addr} {fd : FuncData} {C SFa : Addr}
/-! ### _law_users -/
def fsUsers : FS := fun as μ k _ => as = [] ∧ k (lv [.str "ann", .str "b", .str "abcdefgh"]) μ
theorem sc_users : FnScope [] [] (C8.fnScope (top 61)) := C8.fnScope_by (by decide +kernel)
theorem cal_users (D : C8.Def K mg "_law_users" (top 61) f fd) (b : Binds K fd [] []) : C8.Cal P w K mg base 1 "_law_users" (spF K fsUsers) [] := by
  refine calD D b sc_users (fun as μ k F ⟨h, _⟩ => by rw [h]; rfl) fun cdv A outer s H E hr as μ k F ⟨h, hk⟩ => ?_
  subst h
  refine s_one ?_
  refine s_ret ?_
  refine d_lst ?_
  refine d_cons ?_
  refine d_str ?_
  refine d_cons ?_
  refine d_str ?_
  refine d_cons ?_
  refine d_str ?_
  refine d_nil ?_
  exact ⟨by simp, .inl ⟨[.str "ann", .str "b", .str "abcdefgh"], rfl, hk⟩⟩
/-! ### _law_replay -/
def fsReplay : FS := ret fun as r => ∃ (g : List Int) (ps : List (Str × K87M.Step)), g.length + total (stepsOf ps) < 900000 ∧ PsOk ps ∧ as = [.d (listL g), lv (ps.map pairD)] ∧ r = runL (runF g 0 (stepsOf ps))
theorem sc_replay : FnScope ["_law_heap_here", "_law_log", "_law_user", "_law_step"] ["_law_heap_here", "_law_log"] (C8.fnScope (top 63)) := C8.fnScope_by (by decide +kernel)
theorem cal_replay (D : C8.Def K mg "_law_replay" (top 63) f fd) (b : Binds K fd ["_law_heap_here", "_law_log"] []) (B : Bl mg) (c_run : C8.Cal P w K mg base 2 "_law_run" (spF K fsLRun) []) : C8.Cal P w K mg base 3 "_law_replay" (spF K fsReplay) [] := by
  refine calD D b sc_replay (fun as μ k F ⟨_, ⟨_, _, _, _, h, _⟩, _⟩ => by rw [h]; rfl) fun cdv A outer s H E hr as μ k F ⟨r, ⟨g, ps, hl, ok, h, hr'⟩, hk⟩ => ?_
  subst h hr'
  have hps : ps.length ≤ total (stepsOf ps) := by
    have := len_total (psOk_steps ok)
    rwa [List.length_map] at this
  refine s_one ?_
  refine s_ret ?_
  refine d_call c_run hr (by decide) rfl ?_
  refine d_cons ?_
  refine d_var 0 rfl ?_
  refine d_cons ?_
  refine d_lc2 2 3 [("_law_user", 2), ("_law_step", 3)] rfl sc_replay.nd (blkOk_by (N := ["_law_heap_here", "_law_log", "_law_user", "_law_step"]) (sc := C8.fnScope (top 63)) (by decide +kernel)) ?_
  refine i_list ?_
  refine d_var 1 rfl ?_
  refine ⟨_, .lst _, lcF_lcW ⟨.lst _, _, ps, fun a => .d (pairD a), fun a => some (stepD a.2), by rw [List.map_map]; rfl, by omega, fun a ha => ?_, ?_⟩⟩
  · refine ⟨_, rfl, ?_⟩
    refine ⟨rfl, fun h => absurd h (by decide), fun _ => ?_⟩
    intro s H0 C cl fp
    refine d_var 3 rfl ?_ -- step
    exact ⟨rfl, _, rfl, rfl⟩
  rw [List.filterMap_eq_map', show ps.map (fun a => stepD a.2) = (stepsOf ps).map stepD from stepsD_of _]
  refine d_nil ?_
  exact ⟨_, ⟨g, stepsOf ps, hl, psOk_steps ok, rfl, rfl⟩, hk⟩
/-! ### _law_given -/
def fsGiven (C SFa : Addr) : FS := fun as μ k F => ∃ (p : Addr) (g h : List Int) (ps : List (Str × K87M.Step)) (u : Str) (ss : List K87M.Step), ss.length ≤ 6 ∧ Dec h ∧ h.length + total ss < 100000 ∧ ps.length < 100000 ∧ (∀ s ∈ ss, s.Ok) ∧ UserOk u ∧ as = [rv p, sv u, lv (ss.map stepD)] ∧ μ p = some (ses C g h ps) ∧
  (∀ h', runF h 0 ss = .inl h' → k (.d (stk h')) (mset μ p (ses C g h' (ps ++ ss.map fun s => (u, s))))) ∧ ∀ i, runF h 0 ss = .inr i → F SFa "index" (iv (i : Int)) μ
theorem sc_given : FnScope ["_law_session", "_law_user", "_law_steps_here"] ["_law_session", "_law_user", "_law_steps_here"] (C8.fnScope (top 64)) := C8.fnScope_by (by decide +kernel)
theorem int_ne {a b : Int} (h : a ≠ b) : PyData.int a ≠ .int b := fun e => h (by injection e)
theorem cal_given (D : C8.Def K mg "_law_given" (top 64) f fd) (b : Binds K fd ["_law_session", "_law_user", "_law_steps_here"] []) (B : Bl mg) (S : SesC K C) {fDo : Addr} (mDo : Meth K C "do" fDo) (c_do : FnR P w K mg base (L2.CX P w) 9 fDo (spF K (starS 2 (fbDo C SFa)))) : CalX P w K mg base 10 "_law_given" (spF K (fsGiven C SFa)) := by
  refine calX D b sc_given (fun as μ k F ⟨_, _, _, _, _, _, _, _, _, _, _, _, h, _⟩ => by rw [h]; rfl) fun cdv A outer s H E hr as μ k F ⟨p, g, h, ps, u, ss, h6, dh, hl, hpl, ok, hu, has, hp, hk, hF⟩ => ?_
  subst has
  match ss, h6, hl, ok, hk, hF with
  | [], h6, hl, ok, hk, hF =>
    refine s_cons ?_
    refine s_if ?_
    refine d_tcmp (op_eqD hr.units) rfl ?_
    refine d_len rfl B.len ?_
    refine d_var 2 rfl ?_
    refine ⟨_, .lst _, ?_⟩
    refine d_int ?_
    refine dr_eqG ⟨_, _, 0, 0, rfl, rfl, .int _ _, .int _ _, by decide, by decide, fun _ => ⟨_, rfl, fun _ => ?_, fun h => absurd h (by decide)⟩, fun h => absurd rfl h⟩
    refine s_one ?_
    refine s_ret ?_
    refine d_methR S.cls mDo c_do hr (by decide) passC ?_
    refine d_var 0 rfl ?_
    refine ⟨p, _, rfl, hp, rfl, ?_⟩
    refine d_cons ?_
    refine d_var 1 rfl ?_
    refine d_nil ?_
    exact ⟨[rv p, sv u], [], rfl, rfl, by simp, ⟨p, g, h, ps, u, [], dh, hl, hpl, ok, hu, rfl, hp, hk, hF⟩⟩
  | [s0], h6, hl, ok, hk, hF =>
    refine s_cons ?_
    refine s_if ?_
    refine d_tcmp (op_eqD hr.units) rfl ?_
    refine d_len rfl B.len ?_
    refine d_var 2 rfl ?_
    refine ⟨_, .lst _, ?_⟩
    refine d_int ?_
    refine dr_eqG ⟨_, _, 0, 0, rfl, rfl, .int _ _, .int _ _, by decide, by decide, fun hh => absurd hh (int_ne (a := (1 : Nat)) (b := 0) (by decide)), fun _ => ⟨_, rfl, fun hh => absurd hh (by decide), fun _ => ?_⟩⟩
    refine s_nil ?_
    refine s_cons ?_
    refine s_if ?_
    refine d_tcmp (op_eqD hr.units) rfl ?_
    refine d_len rfl B.len ?_
    refine d_var 2 rfl ?_
    refine ⟨_, .lst _, ?_⟩
    refine d_int ?_
    refine dr_eqG ⟨_, _, 0, 0, rfl, rfl, .int _ _, .int _ _, by decide, by decide, fun _ => ⟨_, rfl, fun _ => ?_, fun h => absurd h (by decide)⟩, fun h => absurd rfl h⟩
    refine s_one ?_
    refine s_ret ?_
    refine d_methR S.cls mDo c_do hr (by decide) passC ?_
    refine d_var 0 rfl ?_
    refine ⟨p, _, rfl, hp, rfl, ?_⟩
    refine d_cons ?_
    refine d_var 1 rfl ?_
    refine d_cons ?_
    refine d_ix ?_
    refine d_var 2 rfl ?_
    refine d_int ?_
    refine ⟨_, _, .d (stepD s0), .lst _, rfl, rfl, ?_⟩
    refine d_nil ?_
    exact ⟨[rv p, sv u], [stepD s0], rfl, rfl, by simp, ⟨p, g, h, ps, u, [s0], dh, hl, hpl, ok, hu, rfl, hp, hk, hF⟩⟩
  | [s0, s1], h6, hl, ok, hk, hF =>
    refine s_cons ?_
    refine s_if ?_
    refine d_tcmp (op_eqD hr.units) rfl ?_
    refine d_len rfl B.len ?_
    refine d_var 2 rfl ?_
    refine ⟨_, .lst _, ?_⟩
    refine d_int ?_
    refine dr_eqG ⟨_, _, 0, 0, rfl, rfl, .int _ _, .int _ _, by decide, by decide, fun hh => absurd hh (int_ne (a := (2 : Nat)) (b := 0) (by decide)), fun _ => ⟨_, rfl, fun hh => absurd hh (by decide), fun _ => ?_⟩⟩
    refine s_nil ?_
    refine s_cons ?_
    refine s_if ?_
    refine d_tcmp (op_eqD hr.units) rfl ?_
    refine d_len rfl B.len ?_
    refine d_var 2 rfl ?_
    refine ⟨_, .lst _, ?_⟩
    refine d_int ?_
    refine dr_eqG ⟨_, _, 0, 0, rfl, rfl, .int _ _, .int _ _, by decide, by decide, fun hh => absurd hh (int_ne (a := (2 : Nat)) (b := 1) (by decide)), fun _ => ⟨_, rfl, fun hh => absurd hh (by decide), fun _ => ?_⟩⟩
    refine s_nil ?_
    refine s_cons ?_
    refine s_if ?_
    refine d_tcmp (op_eqD hr.units) rfl ?_
    refine d_len rfl B.len ?_
    refine d_var 2 rfl ?_
    refine ⟨_, .lst _, ?_⟩
    refine d_int ?_
    refine dr_eqG ⟨_, _, 0, 0, rfl, rfl, .int _ _, .int _ _, by decide, by decide, fun _ => ⟨_, rfl, fun _ => ?_, fun h => absurd h (by decide)⟩, fun h => absurd rfl h⟩
    refine s_one ?_
    refine s_ret ?_
    refine d_methR S.cls mDo c_do hr (by decide) passC ?_
    refine d_var 0 rfl ?_
    refine ⟨p, _, rfl, hp, rfl, ?_⟩
    refine d_cons ?_
    refine d_var 1 rfl ?_
    refine d_cons ?_
    refine d_ix ?_
    refine d_var 2 rfl ?_
    refine d_int ?_
    refine ⟨_, _, .d (stepD s0), .lst _, rfl, rfl, ?_⟩
    refine d_cons ?_
    refine d_ix ?_
    refine d_var 2 rfl ?_
    refine d_int ?_
    refine ⟨_, _, .d (stepD s1), .lst _, rfl, rfl, ?_⟩
    refine d_nil ?_
    exact ⟨[rv p, sv u], [stepD s0, stepD s1], rfl, rfl, by simp, ⟨p, g, h, ps, u, [s0, s1], dh, hl, hpl, ok, hu, rfl, hp, hk, hF⟩⟩
  | [s0, s1, s2], h6, hl, ok, hk, hF =>
    refine s_cons ?_
    refine s_if ?_
    refine d_tcmp (op_eqD hr.units) rfl ?_
    refine d_len rfl B.len ?_
    refine d_var 2 rfl ?_
    refine ⟨_, .lst _, ?_⟩
    refine d_int ?_
    refine dr_eqG ⟨_, _, 0, 0, rfl, rfl, .int _ _, .int _ _, by decide, by decide, fun hh => absurd hh (int_ne (a := (3 : Nat)) (b := 0) (by decide)), fun _ => ⟨_, rfl, fun hh => absurd hh (by decide), fun _ => ?_⟩⟩
    refine s_nil ?_
    refine s_cons ?_
    refine s_if ?_
    refine d_tcmp (op_eqD hr.units) rfl ?_
    refine d_len rfl B.len ?_
    refine d_var 2 rfl ?_
    refine ⟨_, .lst _, ?_⟩
    refine d_int ?_
    refine dr_eqG ⟨_, _, 0, 0, rfl, rfl, .int _ _, .int _ _, by decide, by decide, fun hh => absurd hh (int_ne (a := (3 : Nat)) (b := 1) (by decide)), fun _ => ⟨_, rfl, fun hh => absurd hh (by decide), fun _ => ?_⟩⟩
    refine s_nil ?_
    refine s_cons ?_
    refine s_if ?_
    refine d_tcmp (op_eqD hr.units) rfl ?_
    refine d_len rfl B.len ?_
    refine d_var 2 rfl ?_
    refine ⟨_, .lst _, ?_⟩
    refine d_int ?_
    refine dr_eqG ⟨_, _, 0, 0, rfl, rfl, .int _ _, .int _ _, by decide, by decide, fun hh => absurd hh (int_ne (a := (3 : Nat)) (b := 2) (by decide)), fun _ => ⟨_, rfl, fun hh => absurd hh (by decide), fun _ => ?_⟩⟩
    refine s_nil ?_
    refine s_cons ?_
    refine s_if ?_
    refine d_tcmp (op_eqD hr.units) rfl ?_
    refine d_len rfl B.len ?_
    refine d_var 2 rfl ?_
    refine ⟨_, .lst _, ?_⟩
    refine d_int ?_
    refine dr_eqG ⟨_, _, 0, 0, rfl, rfl, .int _ _, .int _ _, by decide, by decide, fun _ => ⟨_, rfl, fun _ => ?_, fun h => absurd h (by decide)⟩, fun h => absurd rfl h⟩
    refine s_one ?_
    refine s_ret ?_
    refine d_methR S.cls mDo c_do hr (by decide) passC ?_
    refine d_var 0 rfl ?_
    refine ⟨p, _, rfl, hp, rfl, ?_⟩
    refine d_cons ?_
    refine d_var 1 rfl ?_
    refine d_cons ?_
    refine d_ix ?_
    refine d_var 2 rfl ?_
    refine d_int ?_
    refine ⟨_, _, .d (stepD s0), .lst _, rfl, rfl, ?_⟩
    refine d_cons ?_
    refine d_ix ?_
    refine d_var 2 rfl ?_
    refine d_int ?_
    refine ⟨_, _, .d (stepD s1), .lst _, rfl, rfl, ?_⟩
    refine d_cons ?_
    refine d_ix ?_
    refine d_var 2 rfl ?_
    refine d_int ?_
    refine ⟨_, _, .d (stepD s2), .lst _, rfl, rfl, ?_⟩
    refine d_nil ?_
    exact ⟨[rv p, sv u], [stepD s0, stepD s1, stepD s2], rfl, rfl, by simp, ⟨p, g, h, ps, u, [s0, s1, s2], dh, hl, hpl, ok, hu, rfl, hp, hk, hF⟩⟩
  | [s0, s1, s2, s3], h6, hl, ok, hk, hF =>
    refine s_cons ?_
    refine s_if ?_
    refine d_tcmp (op_eqD hr.units) rfl ?_
    refine d_len rfl B.len ?_
    refine d_var 2 rfl ?_
    refine ⟨_, .lst _, ?_⟩
    refine d_int ?_
    refine dr_eqG ⟨_, _, 0, 0, rfl, rfl, .int _ _, .int _ _, by decide, by decide, fun hh => absurd hh (int_ne (a := (4 : Nat)) (b := 0) (by decide)), fun _ => ⟨_, rfl, fun hh => absurd hh (by decide), fun _ => ?_⟩⟩
    refine s_nil ?_
    refine s_cons ?_
    refine s_if ?_
    refine d_tcmp (op_eqD hr.units) rfl ?_
    refine d_len rfl B.len ?_
    refine d_var 2 rfl ?_
    refine ⟨_, .lst _, ?_⟩
    refine d_int ?_
    refine dr_eqG ⟨_, _, 0, 0, rfl, rfl, .int _ _, .int _ _, by decide, by decide, fun hh => absurd hh (int_ne (a := (4 : Nat)) (b := 1) (by decide)), fun _ => ⟨_, rfl, fun hh => absurd hh (by decide), fun _ => ?_⟩⟩
    refine s_nil ?_
    refine s_cons ?_
    refine s_if ?_
    refine d_tcmp (op_eqD hr.units) rfl ?_
    refine d_len rfl B.len ?_
    refine d_var 2 rfl ?_
    refine ⟨_, .lst _, ?_⟩
    refine d_int ?_
    refine dr_eqG ⟨_, _, 0, 0, rfl, rfl, .int _ _, .int _ _, by decide, by decide, fun hh => absurd hh (int_ne (a := (4 : Nat)) (b := 2) (by decide)), fun _ => ⟨_, rfl, fun hh => absurd hh (by decide), fun _ => ?_⟩⟩
    refine s_nil ?_
    refine s_cons ?_
    refine s_if ?_
    refine d_tcmp (op_eqD hr.units) rfl ?_
    refine d_len rfl B.len ?_
    refine d_var 2 rfl ?_
    refine ⟨_, .lst _, ?_⟩
    refine d_int ?_
    refine dr_eqG ⟨_, _, 0, 0, rfl, rfl, .int _ _, .int _ _, by decide, by decide, fun hh => absurd hh (int_ne (a := (4 : Nat)) (b := 3) (by decide)), fun _ => ⟨_, rfl, fun hh => absurd hh (by decide), fun _ => ?_⟩⟩
    refine s_nil ?_
    refine s_cons ?_
    refine s_if ?_
    refine d_tcmp (op_eqD hr.units) rfl ?_
    refine d_len rfl B.len ?_
    refine d_var 2 rfl ?_
    refine ⟨_, .lst _, ?_⟩
    refine d_int ?_
    refine dr_eqG ⟨_, _, 0, 0, rfl, rfl, .int _ _, .int _ _, by decide, by decide, fun _ => ⟨_, rfl, fun _ => ?_, fun h => absurd h (by decide)⟩, fun h => absurd rfl h⟩
    refine s_one ?_
    refine s_ret ?_
    refine d_methR S.cls mDo c_do hr (by decide) passC ?_
    refine d_var 0 rfl ?_
    refine ⟨p, _, rfl, hp, rfl, ?_⟩
    refine d_cons ?_
    refine d_var 1 rfl ?_
    refine d_cons ?_
    refine d_ix ?_
    refine d_var 2 rfl ?_
    refine d_int ?_
    refine ⟨_, _, .d (stepD s0), .lst _, rfl, rfl, ?_⟩
    refine d_cons ?_
    refine d_ix ?_
    refine d_var 2 rfl ?_
    refine d_int ?_
    refine ⟨_, _, .d (stepD s1), .lst _, rfl, rfl, ?_⟩
    refine d_cons ?_
    refine d_ix ?_
    refine d_var 2 rfl ?_
    refine d_int ?_
    refine ⟨_, _, .d (stepD s2), .lst _, rfl, rfl, ?_⟩
    refine d_cons ?_
    refine d_ix ?_
    refine d_var 2 rfl ?_
    refine d_int ?_
    refine ⟨_, _, .d (stepD s3), .lst _, rfl, rfl, ?_⟩
    refine d_nil ?_
    exact ⟨[rv p, sv u], [stepD s0, stepD s1, stepD s2, stepD s3], rfl, rfl, by simp, ⟨p, g, h, ps, u, [s0, s1, s2, s3], dh, hl, hpl, ok, hu, rfl, hp, hk, hF⟩⟩
  | [s0, s1, s2, s3, s4], h6, hl, ok, hk, hF =>
    refine s_cons ?_
    refine s_if ?_
    refine d_tcmp (op_eqD hr.units) rfl ?_
    refine d_len rfl B.len ?_
    refine d_var 2 rfl ?_
    refine ⟨_, .lst _, ?_⟩
    refine d_int ?_
    refine dr_eqG ⟨_, _, 0, 0, rfl, rfl, .int _ _, .int _ _, by decide, by decide, fun hh => absurd hh (int_ne (a := (5 : Nat)) (b := 0) (by decide)), fun _ => ⟨_, rfl, fun hh => absurd hh (by decide), fun _ => ?_⟩⟩
    refine s_nil ?_
    refine s_cons ?_
    refine s_if ?_
    refine d_tcmp (op_eqD hr.units) rfl ?_
    refine d_len rfl B.len ?_
    refine d_var 2 rfl ?_
    refine ⟨_, .lst _, ?_⟩
    refine d_int ?_
    refine dr_eqG ⟨_, _, 0, 0, rfl, rfl, .int _ _, .int _ _, by decide, by decide, fun hh => absurd hh (int_ne (a := (5 : Nat)) (b := 1) (by decide)), fun _ => ⟨_, rfl, fun hh => absurd hh (by decide), fun _ => ?_⟩⟩
    refine s_nil ?_
    refine s_cons ?_
    refine s_if ?_
    refine d_tcmp (op_eqD hr.units) rfl ?_
    refine d_len rfl B.len ?_
    refine d_var 2 rfl ?_
    refine ⟨_, .lst _, ?_⟩
    refine d_int ?_
    refine dr_eqG ⟨_, _, 0, 0, rfl, rfl, .int _ _, .int _ _, by decide, by decide, fun hh => absurd hh (int_ne (a := (5 : Nat)) (b := 2) (by decide)), fun _ => ⟨_, rfl, fun hh => absurd hh (by decide), fun _ => ?_⟩⟩
    refine s_nil ?_
    refine s_cons ?_
    refine s_if ?_
    refine d_tcmp (op_eqD hr.units) rfl ?_
    refine d_len rfl B.len ?_
    refine d_var 2 rfl ?_
    refine ⟨_, .lst _, ?_⟩
    refine d_int ?_
    refine dr_eqG ⟨_, _, 0, 0, rfl, rfl, .int _ _, .int _ _, by decide, by decide, fun hh => absurd hh (int_ne (a := (5 : Nat)) (b := 3) (by decide)), fun _ => ⟨_, rfl, fun hh => absurd hh (by decide), fun _ => ?_⟩⟩
    refine s_nil ?_
    refine s_cons ?_
    refine s_if ?_
    refine d_tcmp (op_eqD hr.units) rfl ?_
    refine d_len rfl B.len ?_
    refine d_var 2 rfl ?_
    refine ⟨_, .lst _, ?_⟩
    refine d_int ?_
    refine dr_eqG ⟨_, _, 0, 0, rfl, rfl, .int _ _, .int _ _, by decide, by decide, fun hh => absurd hh (int_ne (a := (5 : Nat)) (b := 4) (by decide)), fun _ => ⟨_, rfl, fun hh => absurd hh (by decide), fun _ => ?_⟩⟩
    refine s_nil ?_
    refine s_cons ?_
    refine s_if ?_
    refine d_tcmp (op_eqD hr.units) rfl ?_
    refine d_len rfl B.len ?_
    refine d_var 2 rfl ?_
    refine ⟨_, .lst _, ?_⟩
    refine d_int ?_
    refine dr_eqG ⟨_, _, 0, 0, rfl, rfl, .int _ _, .int _ _, by decide, by decide, fun _ => ⟨_, rfl, fun _ => ?_, fun h => absurd h (by decide)⟩, fun h => absurd rfl h⟩
    refine s_one ?_
    refine s_ret ?_
    refine d_methR S.cls mDo c_do hr (by decide) passC ?_
    refine d_var 0 rfl ?_
    refine ⟨p, _, rfl, hp, rfl, ?_⟩
    refine d_cons ?_
    refine d_var 1 rfl ?_
    refine d_cons ?_
    refine d_ix ?_
    refine d_var 2 rfl ?_
    refine d_int ?_
    refine ⟨_, _, .d (stepD s0), .lst _, rfl, rfl, ?_⟩
    refine d_cons ?_
    refine d_ix ?_
    refine d_var 2 rfl ?_
    refine d_int ?_
    refine ⟨_, _, .d (stepD s1), .lst _, rfl, rfl, ?_⟩
    refine d_cons ?_
    refine d_ix ?_
    refine d_var 2 rfl ?_
    refine d_int ?_
    refine ⟨_, _, .d (stepD s2), .lst _, rfl, rfl, ?_⟩
    refine d_cons ?_
    refine d_ix ?_
    refine d_var 2 rfl ?_
    refine d_int ?_
    refine ⟨_, _, .d (stepD s3), .lst _, rfl, rfl, ?_⟩
    refine d_cons ?_
    refine d_ix ?_
    refine d_var 2 rfl ?_
    refine d_int ?_
    refine ⟨_, _, .d (stepD s4), .lst _, rfl, rfl, ?_⟩
    refine d_nil ?_
    exact ⟨[rv p, sv u], [stepD s0, stepD s1, stepD s2, stepD s3, stepD s4], rfl, rfl, by simp, ⟨p, g, h, ps, u, [s0, s1, s2, s3, s4], dh, hl, hpl, ok, hu, rfl, hp, hk, hF⟩⟩
  | [s0, s1, s2, s3, s4, s5], h6, hl, ok, hk, hF =>
    refine s_cons ?_
    refine s_if ?_
    refine d_tcmp (op_eqD hr.units) rfl ?_
    refine d_len rfl B.len ?_
    refine d_var 2 rfl ?_
    refine ⟨_, .lst _, ?_⟩
    refine d_int ?_
    refine dr_eqG ⟨_, _, 0, 0, rfl, rfl, .int _ _, .int _ _, by decide, by decide, fun hh => absurd hh (int_ne (a := (6 : Nat)) (b := 0) (by decide)), fun _ => ⟨_, rfl, fun hh => absurd hh (by decide), fun _ => ?_⟩⟩
    refine s_nil ?_
    refine s_cons ?_
    refine s_if ?_
    refine d_tcmp (op_eqD hr.units) rfl ?_
    refine d_len rfl B.len ?_
    refine d_var 2 rfl ?_
    refine ⟨_, .lst _, ?_⟩
    refine d_int ?_
    refine dr_eqG ⟨_, _, 0, 0, rfl, rfl, .int _ _, .int _ _, by decide, by decide, fun hh => absurd hh (int_ne (a := (6 : Nat)) (b := 1) (by decide)), fun _ => ⟨_, rfl, fun hh => absurd hh (by decide), fun _ => ?_⟩⟩
    refine s_nil ?_
    refine s_cons ?_
    refine s_if ?_
    refine d_tcmp (op_eqD hr.units) rfl ?_
    refine d_len rfl B.len ?_
    refine d_var 2 rfl ?_
    refine ⟨_, .lst _, ?_⟩
    refine d_int ?_
    refine dr_eqG ⟨_, _, 0, 0, rfl, rfl, .int _ _, .int _ _, by decide, by decide, fun hh => absurd hh (int_ne (a := (6 : Nat)) (b := 2) (by decide)), fun _ => ⟨_, rfl, fun hh => absurd hh (by decide), fun _ => ?_⟩⟩
    refine s_nil ?_
    refine s_cons ?_
    refine s_if ?_
    refine d_tcmp (op_eqD hr.units) rfl ?_
    refine d_len rfl B.len ?_
    refine d_var 2 rfl ?_
    refine ⟨_, .lst _, ?_⟩
    refine d_int ?_
    refine dr_eqG ⟨_, _, 0, 0, rfl, rfl, .int _ _, .int _ _, by decide, by decide, fun hh => absurd hh (int_ne (a := (6 : Nat)) (b := 3) (by decide)), fun _ => ⟨_, rfl, fun hh => absurd hh (by decide), fun _ => ?_⟩⟩
    refine s_nil ?_
    refine s_cons ?_
    refine s_if ?_
    refine d_tcmp (op_eqD hr.units) rfl ?_
    refine d_len rfl B.len ?_
    refine d_var 2 rfl ?_
    refine ⟨_, .lst _, ?_⟩
    refine d_int ?_
    refine dr_eqG ⟨_, _, 0, 0, rfl, rfl, .int _ _, .int _ _, by decide, by decide, fun hh => absurd hh (int_ne (a := (6 : Nat)) (b := 4) (by decide)), fun _ => ⟨_, rfl, fun hh => absurd hh (by decide), fun _ => ?_⟩⟩
    refine s_nil ?_
    refine s_cons ?_
    refine s_if ?_
    refine d_tcmp (op_eqD hr.units) rfl ?_
    refine d_len rfl B.len ?_
    refine d_var 2 rfl ?_
    refine ⟨_, .lst _, ?_⟩
    refine d_int ?_
    refine dr_eqG ⟨_, _, 0, 0, rfl, rfl, .int _ _, .int _ _, by decide, by decide, fun hh => absurd hh (int_ne (a := (6 : Nat)) (b := 5) (by decide)), fun _ => ⟨_, rfl, fun hh => absurd hh (by decide), fun _ => ?_⟩⟩
    refine s_nil ?_
    refine s_one ?_
    refine s_ret ?_
    refine d_methR S.cls mDo c_do hr (by decide) passC ?_
    refine d_var 0 rfl ?_
    refine ⟨p, _, rfl, hp, rfl, ?_⟩
    refine d_cons ?_
    refine d_var 1 rfl ?_
    refine d_cons ?_
    refine d_ix ?_
    refine d_var 2 rfl ?_
    refine d_int ?_
    refine ⟨_, _, .d (stepD s0), .lst _, rfl, rfl, ?_⟩
    refine d_cons ?_
    refine d_ix ?_
    refine d_var 2 rfl ?_
    refine d_int ?_
    refine ⟨_, _, .d (stepD s1), .lst _, rfl, rfl, ?_⟩
    refine d_cons ?_
    refine d_ix ?_
    refine d_var 2 rfl ?_
    refine d_int ?_
    refine ⟨_, _, .d (stepD s2), .lst _, rfl, rfl, ?_⟩
    refine d_cons ?_
    refine d_ix ?_
    refine d_var 2 rfl ?_
    refine d_int ?_
    refine ⟨_, _, .d (stepD s3), .lst _, rfl, rfl, ?_⟩
    refine d_cons ?_
    refine d_ix ?_
    refine d_var 2 rfl ?_
    refine d_int ?_
    refine ⟨_, _, .d (stepD s4), .lst _, rfl, rfl, ?_⟩
    refine d_cons ?_
    refine d_ix ?_
    refine d_var 2 rfl ?_
    refine d_int ?_
    refine ⟨_, _, .d (stepD s5), .lst _, rfl, rfl, ?_⟩
    refine d_nil ?_
    exact ⟨[rv p, sv u], [stepD s0, stepD s1, stepD s2, stepD s3, stepD s4, stepD s5], rfl, rfl, by simp, ⟨p, g, h, ps, u, [s0, s1, s2, s3, s4, s5], dh, hl, hpl, ok, hu, rfl, hp, hk, hF⟩⟩
  | _ :: _ :: _ :: _ :: _ :: _ :: _ :: _, h6, hl, ok, hk, hF => exact absurd h6 (by simp)
end
end K87
end

section
set_option Elab.async false
set_option linter.all false
set_option maxRecDepth 100000
set_option maxHeartbeats 1100000
set_option autoImplicit false
/-! try with several clauses `except X as n`. -/
namespace K87
open L2 PySem PySem.Spec PyProof.Rows
/-- behind a clause its name is gone -/
def goneD (i : Nat) (D : Ends) : Ends := { nx := fun σ' H' => D.nx (σ'.set i none) H', rt := D.rt, bk := fun σ' H' => D.bk (σ'.set i none) H', ct := fun σ' H' => D.ct (σ'.set i none) H' }
def wManyAs (K : PySem.W.Frag) (i : Nat) (Wo : WX) (D : Ends) : List (Value × (Addr → Value → Option Addr → TS)) → WX
  | [] => Wo
  | (c, ts) :: rest => fun cls d σ H => ∃ yes, PySem.W.exmOne K cls c = some yes ∧ (yes = true → ∀ a, H a = none → ts a cls d (goneD i D) (σ.set i (some (.ref a))) H) ∧ (yes = false → wManyAs K i Wo D rest cls d σ H)
inductive HdsAs (X : Cx) (n : Str) : List ExceptHandler → List (Value × (Addr → Value → Option Addr → TS)) → Prop
  | nil : HdsAs X n [] []
  | cons {x : Str} {c : Value} {ts : Addr → Value → Option Addr → TS} {st0 : Stmt} {sts : List Stmt} {np pos' : Pos} {hds : List ExceptHandler} {l : List (Value × (Addr → Value → Option Addr → TS))} (hc : Names X x c)
      (hsu : ∀ (a : Addr) (oe : Obj) (cls : Value) (d : Option Addr) (pn : List (Addr × Obj)), Zc cls d oe → (∃ vs, oe.data = .fields vs) → PSs (X.suite a ((a, oe) :: pn)) (st0 :: sts) (ts a cls d)) (r : HdsAs X n hds l) :
      HdsAs X n (.ExceptHandler (some (.Name x np)) (some n) (st0 :: sts) pos' :: hds) ((c, ts) :: l)
section
variable {X : Cx} {body : List Stmt} {h0 : ExceptHandler} {hds : List ExceptHandler} {l : List (Value × (Addr → Value → Option Addr → TS))} {pos : Pos} {tb : WX → TS} {Wo : WX} {n : Str} {i : Nat}
theorem ps_tryAs (hs : X.stack = X.env :: X.outer) (hf : X.env.frame = some X.env.locals) (hN : X.N.Nodup) (hi : X.N[i]? = some n) (hln : X.env.kindOf n = some .local) (tk : Takes X Wo) (hb : ∀ (W : WX) (pn : List (Addr × Obj)) (xe : Value → Shared → Prop), Takes (X.tr pn xe) W → PassesOwn (model X.prog X.w) X.A X.env xe → PSs (X.tr pn xe) body (tb W)) (hh : HdsAs X n (h0 :: hds) l) : PS X (.Try body (h0 :: hds) [] [] pos) (fun D σ H => tb (wManyAs X.K i Wo D l) D σ H) := by
  (refine ⟨fun pins s σ H D I h => ?_⟩); have okX := I.ok
  have frm : X.A.frames = some (X.env :: X.outer) := by rw [okX.frames, hs]
  have locN : Loc X.env.scope n := .inl hln
  refine wpAny_Try_except ?_
  refine wpAny_mono ((hb (wManyAs X.K i Wo D l) (X.pn ++ pins) (fun e s₁ => wpAny (model X.prog X.w) X.A (noteFrame e X.env) (fun _ s₂ => wpAny (model X.prog X.w) X.A (setFlight e none) (fun _ s₃ =>
    wpAny (model X.prog X.w) X.A (handleBy e X.env (h0 :: hds)) (SP X pins D) X.xe s₃) X.xe s₂) X.xe s₁) (fun u s' xx => ?_) PassesOwn.looking).run [] s σ H D (I.toTry _) h) (fun f s1 q0 => ?_) (fun e s1 he => he)
  · obtain ⟨a, B, sI, pins1, σ1, H1, cls, d, rfl, J0, nb, up, sky, na, os, ag, w0⟩ := xx
    have J : Inv X pins σ1 H1 sI := J0.ofTry okX
    have sky1 : Sky B (X.env :: X.outer) a (Zc cls d) X.env.locals s'.heap := by rw [← hs]; exact sky
    (show wpAny (model X.prog X.w) X.A (noteFrame (.ref a) X.env) _ _ _); refine Sky.land Zc.steady frm hf sky1 fun h3 fl3 up3 => ?_
    have J3 : Inv X pins σ1 H1 { s' with heap := h3 } := J.landed nb fl3.1 (up.trans up3) os ag
    (obtain ⟨oe3, vs3, he3, hz3, hd3⟩ := fl3.there); have offFr : a ∉ frs (X.env :: X.outer) := fun hm => by
      obtain ⟨_, o', e', hnf⟩ := fl3.2.2.1.mem hm
      rw [he3] at e'; cases e'
      exact hnf _ hd3
    have offL : a ≠ X.env.locals := fun z => offFr (List.mem_filterMap.mpr ⟨X.env, List.mem_cons_self, by rw [hf, z]⟩)
    have offF : a ∉ X.fs := fun hm => by
      (obtain ⟨e, he, q⟩ := List.mem_filterMap.mp hm); exact offFr (List.mem_filterMap.mpr ⟨e, List.mem_cons_of_mem _ he, q⟩)
    have S3 := J3.suite he3 hd3 na offL offF
    have typ : PySem.W.Looks (model X.prog X.w) h3 (typeOf (.ref a)) cls := fun A Q E s k q => wpAny_typeOf_ref (k _ _ he3) (by rw [hz3.1]; exact q)
    have go : ∀ {hs' : List ExceptHandler} {l' : List (Value × (Addr → Value → Option Addr → TS))}, HdsAs X n hs' l' → wManyAs X.K i Wo D l' cls d σ1 H1 →
        wpAny (model X.prog X.w) X.A (handleBy (.ref a) X.env hs') (SP X pins D) X.xe { s' with heap := h3 } := by
      intro hs' l' hk
      induction hk with
      | nil =>
        intro w1
        refine wpAny_handleBy_nil ?_
        (obtain ⟨k1, k2, k3, oe, vs, T, oT, ts', he, hz, hd, h1, hr⟩ := id fl3); unfold PySem.passOn
        (refine wpAny_bind (wpAny_field he hd h1 ?_)); rw [if_neg (show ¬ ((Value.ref T == Value.none) = true) from by simp)]
        have out : wpAny (model X.prog X.w) X.A (setFlight (.ref a) X.env.frame) (fun _ s4 => wpAny (model X.prog X.w) X.A (throw (.ref a) : Sem Flow) (SP X pins D) X.xe s4) X.xe { s' with heap := h3 } := by
          rw [hf]
          exact HandSPX.setFlight_upZ fl3 fun h4 hh4 up4 => wpAny_throw (tk _ _ ⟨a, B, sI, pins, σ1, H1, cls, d, rfl, J, nb, (up.trans up3).trans up4, .inr (.inr (by rw [hs]; exact hh4)), na, os, ag, w1⟩)
        first
          | exact wpAny_bind (wpAny_pure (wpAny_bind out))
          | exact wpAny_bind out
      | @cons x c ts st0 sts np pos' hds2 l2 hc hsu r ih =>
        intro w1
        obtain ⟨yes, hyes, hin, hno⟩ := w1
        (refine wpAny_handleBy_cons (codeAny_handlers_test ?_) (by intro q; cases q)); have LM := PySem.W.exm_one (M := model X.prog X.w) (J3.kIn) typ hyes
        have tst : ∀ {Q : Value → Shared → Prop} {E : Value → Shared → Prop}, Q c { s' with heap := h3 } → wpAny (model X.prog X.w) (X.A.mark (some (.ref a))) (eval (.Name x np) X.env) Q E { s' with heap := h3 } := fun {Q E} q => by
          obtain ⟨hg, hdb, hm | ⟨hm, hv, hnn⟩⟩ := hc
          · exact ld_glob (X := X.suite a ((a, oe3) :: (X.pn ++ pins))) S3 hg hm q hdb
          · exact ld_blt (X := X.suite a ((a, oe3) :: (X.pn ++ pins))) S3 hg hm hv q hnn hdb
        refine tst (LM.here ?_)
        cases yes with
        | true =>
          (refine codeAny_handlers_suite_as ?_); refine HandSPX.lands_againZ fl3 fun h4 fl4 up4 => ?_
          have J4 : Inv X pins σ1 H1 { s' with heap := h4 } := J.landed nb fl4.1 ((up.trans up3).trans up4) os ag
          (obtain ⟨oe4, vs4, he4, hz4, hd4⟩ := fl4.there); have S4 := J4.suite he4 hd4 na offL offF
          refine store_ok (X := X.suite a ((a, oe4) :: (X.pn ++ pins))) (v := .ref a) S4 hN hi locN rfl (fun s5 S5 => ?_) (.inr hln)
          refine wpAny_mono ((hsu a oe4 cls d (X.pn ++ pins) hz4 ⟨_, hd4⟩).run [] s5 _ H1 _ S5 (hin rfl a na)) (fun f s6 q6 => ?_) (fun _ _ z => False.elim z)
          have gone : ∀ {σ6 : L2.St} {H6 : Hp} {Q : Shared → Prop}, Inv (X.suite a ((a, oe4) :: (X.pn ++ pins))) [] σ6 H6 s6 → (∀ s7, Inv X pins (σ6.set i none) H6 s7 → Q s7) →
              wpAny (model X.prog X.w) X.A (do bindName X.env n .none; unbindBehindTheSuite X.env n pos') (fun _ s7 => Q s7) X.xe s6 := fun {σ6 H6 Q} S6 hq => gone_ok (S6.unsuite okX) hN hi hln hq
          cases f with
          | next => obtain ⟨σ6, H6, S6, z6⟩ := q6; exact gone S6 fun s7 J7 => ⟨_, _, J7, z6⟩
          | brk => obtain ⟨σ6, H6, S6, z6⟩ := q6; exact gone S6 fun s7 J7 => ⟨_, _, J7, z6⟩
          | cont => obtain ⟨σ6, H6, S6, z6⟩ := q6; exact gone S6 fun s7 J7 => ⟨_, _, J7, z6⟩
          | ret u => obtain ⟨v6, σ6, H6, S6, r6, z6⟩ := q6; exact gone S6 fun s7 J7 => ⟨_, _, _, J7, r6, z6⟩
        | false => exact ih (hno rfl)
    exact go hh w0
  · cases f with
    | next => obtain ⟨σ', H', J', q⟩ := q0; exact wpAny_execs_nil ⟨σ', H', J'.ofTry okX, q⟩
    | brk => obtain ⟨σ', H', J', q⟩ := q0; exact ⟨σ', H', J'.ofTry okX, q⟩
    | cont => obtain ⟨σ', H', J', q⟩ := q0; exact ⟨σ', H', J'.ofTry okX, q⟩
    | ret u => obtain ⟨v, σ', H', J', r, q⟩ := q0; exact ⟨v, σ', H', J'.ofTry okX, r, q⟩
end
end K87
end

section
set_option Elab.async false
set_option linter.all false
set_option maxRecDepth 100000
set_option maxHeartbeats 1100000
set_option autoImplicit false
/-! A lambda is made: the data-level step. -/
namespace K87
open LamX PySem PySem.Spec PyProof.Rows L2
section
variable {X : Cx} {pins : List (Addr × Obj)} {σ : L2.St} {G H : Hp} {μ : Mu} {s : Shared}
theorem tab_new {K : PySem.W.Frag} {P c : Addr} {q : Str} {ps : Array Value} {pos : Pos} (m : MOk K G μ H) (hP : μ P = some (.tab q)) (hH : H P = some (.tbl ps)) (ht : TriplesOk ps.toList) (hc : H c = none)
    (ha : ∀ (pos : Pos) (cv : Value), codeAmong pos ps.toList = some cv → ∃ c, cv = .ref c ∧ G c = some (CodeO c q)) :
    Stp G μ H (upd G c (CodeO c q)) μ (upd (upd H P (.tbl (ps ++ #[rawInt pos.line, rawInt pos.col, .ref c]))) c (CodeO c q)) ∧ MOk K (upd G c (CodeO c q)) μ (upd (upd H P (.tbl (ps ++ #[rawInt pos.line, rawInt pos.col, .ref c]))) c (CodeO c q)) := by
  obtain ⟨gc, mc⟩ := m.free hc
  have gP := (m.obj P _ hP).1
  have same : ∀ a o, H a = some o → a ≠ P → upd (upd H P (.tbl (ps ++ #[rawInt pos.line, rawInt pos.col, .ref c]))) c (CodeO c q) a = some o := fun a o e h => by
    rw [upd_ne (ne_of_none e hc), upd_ne h]; exact e
  refine ⟨⟨Ext.new gc, fun a o hm e => same a o e (fun z => by rw [z, hP] at hm; cases hm), fun _ o h => .inl ⟨o, h⟩, fun a o _ g e => by rw [upd_ne (ne_of_none e hc)]; exact g⟩, fun a o e => ?_, fun p o e => ?_⟩
  · by_cases z : a = c
    · subst z; rw [upd_same] at e ⊢; exact e
    · rw [upd_ne z] at e
      exact same a o (m.sub a o e) fun y => by rw [y, gP] at e; cases e
  · obtain ⟨h1, h2⟩ := m.obj p o e
    have hpc : p ≠ c := fun z => by rw [z, mc] at e; cases e
    refine ⟨by rw [upd_ne hpc]; exact h1, ?_⟩
    by_cases z : p = P
    · subst z
      rw [hP] at e
      cases e
      have eL : (ps ++ #[rawInt pos.line, rawInt pos.col, .ref c]).toList = ps.toList ++ [rawInt pos.line, rawInt pos.col, .ref c] := by simp
      refine ⟨_, by rw [upd_ne hpc, upd_same], by rw [eL]; exact PySem.TriplesOk_snoc _ _ _ _ ht, fun p' cv hcv => ?_⟩
      rw [eL] at hcv
      rcases among_app _ ht hcv with y | y
      · obtain ⟨c0, e1, e2⟩ := ha p' cv y
        exact ⟨c0, e1, Ext.new gc _ _ e2⟩
      · exact ⟨c, y, upd_same⟩
    · exact h2.move (Ext.new gc) fun u y => same p u y z
/-- the lambda's function object stands at f, its code at c' -/
theorem lam_dat {c P : Addr} {params : Arguments} {body : Expr} {scope : Scope} {pos : Pos} {E : Value → Shared → Prop} {Q : Value → Shared → Prop} (I : Inv X pins σ H s) (m : MOk X.K G μ H) (hP : μ P = some (.tab (X.env.qual ++ "<lambda>"))) (TB : TabB X.base X.mg c P) (hcode : X.env.code = .ref c) (hdef : defaultsOf params X.env = ([], [])) (hfree : ∀ y ∈ scope.names, y.2 = .free → ∃ c, X.env.cells.lookup y.1 = some c) (h : ∀ (f c' : Addr) (pm ctv : Value) (G1 H1 : Hp) (s' : Shared), Inv X pins σ H1 s' → Stp G μ H G1 μ H1 → MOk X.K G1 μ H1 → s'.heap.get? f = some (PySem.W.kla_obj "<lambda>" (X.env.qual ++ "<lambda>") params body scope (cloFrom X.env.cells scope.names []) pm c' ctv) → H1 f = none → f ∉ frs X.stack → G1 c' = some (CodeO c' (X.env.qual ++ "<lambda>")) → Q (.ref f) s') : wpAny (model X.prog X.w) X.A (eval (.Lambda params body scope pos) X.env) Q E s := by
  obtain ⟨_, ps, hH, ht, ha⟩ := m.obj P _ hP
  (refine PySem.W.kla_eval hdef ?_); have bP : s.heap.BuiltinsAt X.mg P := TB.bm.keeps I.bk
  have hP' : s.heap.get? P = some { cls := .none, data := .fields ps } := I.hok P _ hH
  have offFrames : ∀ f, s.heap.objs.size ≤ f → f ∉ frs X.stack := fun f hf z => by
    rcases (List.mem_cons.mp (I.stkSub _ z)) with e | e
    · have h1 := I.lt
      (rw [← e] at h1); exact Nat.lt_irrefl _ (Nat.lt_of_lt_of_le h1 hf)
    · exact I.nofs hf e
  cases hc : (codeAmong pos ps.toList) with
  | none =>
    (refine PySem.W.kla_makeFunction (mg := X.mg) (c := c) (P := P) (ps := ps) (closure_ok hfree) I.ok.glob (I.mod.glob.keeps I.bk) hcode (TB.code.keeps I.bk) hP' ht hc TB.gP bP fun c' ctv h' tk hx hge hlt hrec htb => ?_); obtain ⟨c2, oc, vs, t, e2, hoc, hd, hv⟩ := hrec
    cases e2
    (have hsz : s.heap.objs.size ≤ h'.objs.size := Nat.le_trans hge (Nat.le_of_lt hlt)); have nC : H c' = none := I.hok.fresh hge
    have I1 := inv_table (t' := tk) (more := #[rawInt pos.line, rawInt pos.col, .ref c']) (h' := h'.push (PySem.W.kla_obj "<lambda>" (X.env.qual ++ "<lambda>") params body scope (cloFrom X.env.cells scope.names []) ((X.mg "__name__").getD .none) c' ctv)) I hH
      (fun b o hb e0 => Heap.get?_push_of_some _ (hx b o hb e0)) (Heap.get?_push_of_some _ htb) hge ⟨oc, vs, t, Heap.get?_push_of_some _ hoc, hd, hv⟩
    obtain ⟨st1, m1⟩ := tab_new (pos := pos) m hP hH ht nC ha
    have n1 : h'.objs.size ≠ c' := Nat.ne_of_gt hlt
    (have n2 : h'.objs.size ≠ P := Nat.ne_of_gt (Nat.lt_of_lt_of_le (Heap.lt_size hP') hsz)); exact h h'.objs.size c' ((X.mg "__name__").getD .none) ctv _ _ _ I1 st1 m1 (Heap.get?_push_size _ rfl) (by rw [upd_ne n1, upd_ne n2]; exact I.hok.fresh hsz) (offFrames _ hsz) upd_same
  | some cv =>
    (obtain ⟨c', e, hco⟩ := ha pos cv hc); subst e
    (refine PySem.W.kla_makeFunctionHit (mg := X.mg) (c := c) (P := P) (ps := ps) (closure_ok hfree) I.ok.glob (I.mod.glob.keeps I.bk) hcode (TB.code.keeps I.bk) hP' ht hc bP fun ctv h' tk hx hsz => ?_); have I1 : Inv X pins σ H { s with heap := h'.push (PySem.W.kla_obj "<lambda>" (X.env.qual ++ "<lambda>") params body scope (cloFrom X.env.cells scope.names []) ((X.mg "__name__").getD .none) c' ctv), toks := tk } := I.kept fun b o e => Heap.get?_push_of_some _ (hx b o e)
    exact h h'.objs.size c' ((X.mg "__name__").getD .none) ctv G H _ I1 (Stp.refl _ _ _) m (Heap.get?_push_size _ rfl) (I.hok.fresh hsz) (offFrames _ hsz) hco
end
end K87
end

section
set_option Elab.async false
set_option linter.all false
set_option maxRecDepth 100000
set_option maxHeartbeats 1100000
set_option autoImplicit false
/-! The def _law_heard, given a lambda. -/
namespace K87
open LamX PySem PySem.Spec PyProof.Rows L2
abbrev NH : List Str := ["_law_call", "_law_kept", "e"]
theorem sc_heard : FnScope NH ["_law_call"] (C8.fnScope (top 62)) := C8.fnScope_by (by decide +kernel)
/-- what the clauses ask of the two classes -/
structure HdC (K : PySem.W.Frag) (mg : Str → Option Value) (SFa NUa : Addr) : Prop where
  gS : mg "StepFailed" = some (.ref SFa)
  gN : mg "NothingToUndo" = some (.ref NUa)
  ss : PySem.W.exmOne K (.ref SFa) (.ref SFa) = some true
  ns : PySem.W.exmOne K (.ref NUa) (.ref SFa) = some false
  nn : PySem.W.exmOne K (.ref NUa) (.ref NUa) = some true
  xS : XfC K SFa
  xN : XfC K NUa
  noI : PySem.W.findIn K (.ref SFa) "index" = some none
  noU : PySem.W.findIn K (.ref NUa) "user" = some none
/-- what the lambda may let out, and what is answered then -/
def EchH (SFa NUa : Addr) (Q : VK) : XK := fun cls d H' =>
  (∃ (dd : Addr) (v : V), cls = .ref SFa ∧ d = some dd ∧ H' dd = some (.xd [("index", v)]) ∧ ∀ l, H' l = none → Q (.ref l) (upd H' l (.lst [.str "failed", v]))) ∨
  ∃ (dd : Addr) (v : V), cls = .ref NUa ∧ d = some dd ∧ H' dd = some (.xd [("user", v)]) ∧ ∀ l, H' l = none → Q (.ref l) (upd H' l (.lst [.str "nothing", v]))
section
variable {P : Program} {w : World} {K : PySem.W.Frag} {mg : Str → Option Value} {base : Heap} {A : Around} {outer : List Env} {s : Shared} {H : Hp} {f c' g SFa NUa : Addr} {cdg : Value} {q : Str} {tl : XK → Hp → VK → Prop} {Q : VK}
theorem heard_run (hd : HdC K mg SFa NUa)
    (act : ∀ (W : WX) (pn : List (Addr × Obj)) (xe : Value → Shared → Prop) (E : XK) (p1 p2 : Pos), Takes ((XB P w K mg base NH "_law_heard" (top 62) g cdg A outer s H C8.E0).tr pn xe) W → (∀ cls d σ' H', E cls d H' → W cls d σ' H') →
      PE ((XB P w K mg base NH "_law_heard" (top 62) g cdg A outer s H C8.E0).tr pn xe) (.Call (.Name "_law_call" p1) [] [] p2) (fun σZ HZ Q => σZ[0]? = some (some (.ref f)) ∧ HZ c' = some (CodeO c' q) ∧ tl E HZ Q))
    (hm : ∀ (E : XK) (H : Hp) (Q Q' : VK), (∀ v H', Q v H' → Q' v H') → tl E H Q → tl E H Q') (hc : H c' = some (CodeO c' q))
    (hr : ∀ p0, H p0 = none → tl (EchH SFa NUa Q) (upd H p0 (.lst [.str "odd"])) (fun v H3 => ∀ l, H3 l = none → Q (.ref l) (upd H3 l (.lst [.str "good", v])))) :
    ∃ t, PSs (XB P w K mg base NH "_law_heard" (top 62) g cdg A outer s H C8.E0) (C8.fnBody (top 62)) t ∧ t { nx := fun _ H' => Q .non H', rt := Q } (L2.start NH [.ref f]) H := by
  have two : 2 ≤ sizeLine := by rw [sizeLine_eq]; decide
  refine ⟨_, pss_cons (ps_set (i := 1) sc_heard.nd rfl (Or.inl rfl) (pe_lst (pa_cons pe_str pa_nil))) (pss_cons (ps_tryAs (i := 2) (n := "e") (Wo := fun _ _ _ _ => False)
      (l := [(.ref SFa, fun a cls d D σ H => σ.length = 3 → tAsg (tLst (tCons (tC (.str "failed")) (tCons (tXf a cls d SFa "index" (tVar 2)) tNil))) (gName 1) D σ H), (.ref NUa, fun a cls d D σ H => σ.length = 3 → tAsg (tLst (tCons (tC (.str "nothing")) (tCons (tXf a cls d NUa "user" (tVar 2)) tNil))) (gName 1) D σ H)])
      (tb := fun W D σ H => ∃ Ech : XK, (∀ cls d σ' H', Ech cls d H' → W cls d σ' H') ∧ tAsg (tLst (tCons (tC (.str "good")) (tCons (fun σZ HZ Q => σZ[0]? = some (some (.ref f)) ∧ HZ c' = some (CodeO c' q) ∧ tl Ech HZ Q) tNil))) (gName 1) D σ H)
      rfl rfl sc_heard.nd rfl rfl L2.takes0 (fun W pn xe tk _ => ?_) (.cons ⟨rfl, by decide, .inl hd.gS⟩ (fun a oe cls d pn hz hf => ?_) (.cons ⟨rfl, by decide, .inl hd.gN⟩ (fun a oe cls d pn hz hf => ?_) .nil)))
      (pss_one (ps_ret ((pv 1))))), ?_⟩
  · refine (⟨fun pins s' σ H' D I h' => ?_⟩)
    obtain ⟨Ech, hW, h1⟩ := h'
    exact (pss_one (ps_set (i := 1) sc_heard.nd rfl (Or.inl rfl) (pe_lst (pa_cons pe_str (pa_cons (act W pn xe Ech ⟨329, 29, 329, 38⟩ ⟨329, 29, 329, 40⟩ tk hW) pa_nil))))).run pins s' σ H' D I h1
  · exact ⟨fun pins s' σ H' D I h => (pss_one (ps_set (i := 1) sc_heard.nd rfl (Or.inl rfl) (pe_lst (pa_cons pe_str (pa_cons (pe_xf hd.xS hd.noI hz hf (pv 2)) pa_nil))))).run pins s' σ H' D I (h I.len)⟩
  · exact ⟨fun pins s' σ H' D I h => (pss_one (ps_set (i := 1) sc_heard.nd rfl (Or.inl rfl) (pe_lst (pa_cons pe_str (pa_cons (pe_xf hd.xN hd.noU hz hf (pv 2)) pa_nil))))).run pins s' σ H' D I (h I.len)⟩
  · refine ⟨by rw [sizeLine_eq]; decide, fun p0 hp0 => ?_⟩
    refine ⟨EchH SFa NUa Q, fun cls d σ' H' he => ?_, ?_⟩
    · rcases he with ⟨dd, v, rfl, rfl, hdd, hq⟩ | ⟨dd, v, rfl, rfl, hdd, hq⟩
      · refine ⟨true, hd.ss, fun _ a ha => ?_, fun h => absurd h (by decide)⟩
        intro hl
        have hl' : σ'.length = 3 := by rw [List.length_set] at hl; exact hl
        have g2 : (σ'.set 2 (some (V.ref a)))[2]? = some (some (.ref a)) := List.getElem?_set_self (by omega)
        refine ⟨.ref a, g2, rfl, rfl, dd, [(_, v)], v, rfl, hdd, by simp [List.lookup], ⟨two, fun p hp => ?_⟩⟩
        have g1 : (((σ'.set 2 (some (V.ref a))).set 1 (some (.ref p))).set 2 none)[1]? = some (some (.ref p)) := by
          rw [List.getElem?_set_ne (by decide)]
          exact List.getElem?_set_self (by rw [List.length_set]; omega)
        exact ⟨_, g1, hq p hp⟩
      · refine ⟨false, hd.ns, fun h => absurd h (by decide), fun _ => ⟨true, hd.nn, fun _ a ha => ?_, fun h => absurd h (by decide)⟩⟩
        intro hl
        have hl' : σ'.length = 3 := by rw [List.length_set] at hl; exact hl
        have g2 : (σ'.set 2 (some (V.ref a)))[2]? = some (some (.ref a)) := List.getElem?_set_self (by omega)
        refine ⟨.ref a, g2, rfl, rfl, dd, [(_, v)], v, rfl, hdd, by simp [List.lookup], ⟨two, fun p hp => ?_⟩⟩
        have g1 : (((σ'.set 2 (some (V.ref a))).set 1 (some (.ref p))).set 2 none)[1]? = some (some (.ref p)) := by
          rw [List.getElem?_set_ne (by decide)]
          exact List.getElem?_set_self (by rw [List.length_set]; omega)
        exact ⟨_, g1, hq p hp⟩
    · refine ⟨rfl, ?_, ?_⟩
      · rw [upd_ne (ne_of_none hc hp0)]; exact hc
      · refine hm _ _ _ _ (fun v H3 hq => ?_) (hr p0 hp0)
        exact ⟨two, fun l hl => ⟨_, rfl, hq l hl⟩⟩
end
end K87
end

section
set_option Elab.async false
set_option linter.all false
set_option maxRecDepth 100000
set_option maxHeartbeats 1100000
set_option autoImplicit false
/-! _law_heard(lambda: body), of the caller. -/
namespace K87
open LamX PySem PySem.Spec PyProof.Rows L2
def kh (k : KV') : KV' := fun v μ' => ∀ q, μ' q = none → k (rv q) (mset μ' q (.lst [sv "good", v]))
def Fh (SFa NUa : Addr) (k : KV') : KF := fun C fl a μ' =>
  (C = SFa ∧ fl = "index" ∧ ∀ q, μ' q = none → k (rv q) (mset μ' q (.lst [sv "failed", a]))) ∨ (C = NUa ∧ fl = "user" ∧ ∀ q, μ' q = none → k (rv q) (mset μ' q (.lst [sv "nothing", a])))
section
variable {X : Cx} {E : XK} {F : KF} {ρ : Env'} {μ : Mu} {k : KV'} {g c Pt SFa NUa : Addr} {fd : FuncData} {params : Arguments} {body : Expr} {scope : Scope} {p lpos pos : Pos} {kk : Nat}
theorem d_heard (hd : HdC X.K X.mg SFa NUa) (D : C8.Def X.K X.mg "_law_heard" (top 62) g fd) (b : Binds X.K fd ["_law_call"] []) (hg : Gl X "_law_heard") (TB : TabB X.base X.mg c Pt) (hcode : X.env.code = .ref c) (hr : Room (kk + 2) X.A) (L : LamS X.env.scope scope) (hdef : defaultsOf params X.env = ([], []))
    (hbind : ∀ (q : Str) (cl : List (Str × Addr)) (pm cv ctv : Value), bindArgs (PySem.W.kla_fn "<lambda>" q params body scope cl pm cv ctv) ⟨[], []⟩ = pure []) (hP : μ Pt = some (.tab (X.env.qual ++ "<lambda>")))
    (hbody : ∀ (A : Around) (outer : List Env) (s : Shared) (H : Hp) (E : XK) (f c' : Addr), Room kk (A.deeper (lamEnv X scope s.heap.objs.size f c')) → dE (lamCx X A outer s H E scope f c') E (Fh SFa NUa k) body ρ μ (kh k)) :
    dE X E F (.Call (.Name "_law_heard" p) [.Lambda params body scope lpos] [] pos) ρ μ k := fun σ G H sr m pf Q po pins s I => by
  refine wpAny_Call_Name_kw (ld_glob I hg D.mgf ?_ (by decide))
  refine PySem.W.callWith_K (h₀ := X.base) I.ok.mod.kin D.kp ?_ (by rfl) (by rfl)
  (show wpAny _ _ (spliced ((false, eval (.Lambda params body scope lpos) X.env) :: backTo pos (starEach [] X.env))) _ _ s); refine Calls.spliced_cons (lam_dat I m hP TB hcode hdef (L.has I.ok) fun f c' pm' ctv G1 H1 s' I1 st1 m1 hf hfn hfr hco => ?_)
  (refine Calls.spliced_nil ⟨I1.kIn, ?_⟩); have rc : codeAny (model X.prog X.w) X.A (.call (.ref g) ⟨[.ref f], []⟩) (CR C8.CX0 X.stack X.prog X.w H1 s' Q C8.E0) s' := by
    obtain ⟨oc, od, dV, kV, doc, pm, an, cdv, ct, osl, rfl, lk, hcd⟩ := D.fn.ex
    refine run_ofS (N := NH) (ps := ["_law_call"]) (us := [.ref f]) (vs := [.ref f]) lk hcd sc_heard hr I1.env0 (b s' [.ref f] I1.kIn rfl) (.cons rfl .nil) rfl fun hr' => ?_
    obtain ⟨t', ht', hq'⟩ := heard_run (P := X.prog) (w := X.w) (K := X.K) (mg := X.mg) (base := X.base) (A := X.A) (outer := X.stack) (s := s') (H := H1) (g := g) (cdg := cdv) (Q := Q) (f := f) (c' := c') (q := X.env.qual ++ "<lambda>")
      (tl := fun E HZ Q => ∀ (A : Around) (outer : List Env) (s : Shared) (H0 : Hp), Room kk (A.deeper (lamEnv X scope s.heap.objs.size f c')) → wE (lamCx X A outer s H0 E scope f c') body σ HZ Q) hd
      (fun W pn xe E p1 p2 tk hW => pe_act (i := 0) (CXg := C8.CX0) (Eg := C8.E0) (tb := fun σ HZ Q => ∀ (A : Around) (outer : List Env) (s : Shared) (H0 : Hp), Room kk (A.deeper (lamEnv X scope s.heap.objs.size f c')) → wE (lamCx X A outer s H0 E scope f c') body σ HZ Q) I1 L hf hfn hfr (hbind _ _ _ _ _) tk hW hr' (fun A outer s H hr2 => ⟨fun pins s1 σ1 H2 Q2 I2 h => h A outer s H hr2 pins s1 I2⟩) rfl (.inl rfl))
      (fun E H Q Q' hq h A outer s H0 hr2 pins s1 I2 => wpAny_mono (h A outer s H0 hr2 pins s1 I2) (fun v s2 ⟨x, H', I', r, q⟩ => ⟨x, H', I', r, hq _ _ q⟩) fun _ _ x => x)
      (m1.sub _ _ hco) (by
      intro p0 hp0 A outer s H0 hr2
      have s0 : Stp G μ H G1 μ (upd H1 p0 (.lst [.str "odd"])) := st1.trans (Stp.out hp0)
      refine hbody A outer s H0 (EchH SFa NUa Q) f c' hr2 σ G1 (upd H1 p0 (.lst [.str "odd"])) (sr.ext st1.ex) (m1.out hp0) (fun C fl a v d G' μ' H' hF st2 m2 rv2 hdd => ?_) _ fun v a G' μ' H' hk st2 m2 rv2 l hl => ?_
      · rcases hF with ⟨rfl, rfl, hq⟩ | ⟨rfl, rfl, hq⟩
        · exact .inl ⟨d, v, rfl, rfl, hdd, fun l hl => po _ (rv l) G' _ _ (hq l (m2.free hl).2) ((s0.trans st2).trans (Stp.put (.inl hl))) (m2.put (.inl hl) ⟨_, upd_same, .cons (Dp.str _) (.cons rv2 .nil)⟩) rfl⟩
        · exact .inr ⟨d, v, rfl, rfl, hdd, fun l hl => po _ (rv l) G' _ _ (hq l (m2.free hl).2) ((s0.trans st2).trans (Stp.put (.inl hl))) (m2.put (.inl hl) ⟨_, upd_same, .cons (Dp.str _) (.cons rv2 .nil)⟩) rfl⟩
      · exact po _ (rv l) G' _ _ (hk l (m2.free hl).2) ((s0.trans st2).trans (Stp.put (.inl hl))) (m2.put (.inl hl) ⟨_, upd_same, .cons (Dp.str _) (.cons rv2 .nil)⟩) rfl)
    exact ⟨t', ht'.nox, hq'⟩
  (refine wpAny_call (codeAny_mono rc fun r s2 hq => ?_)); cases r with
  | error e => (exact (show False from hq).elim)
  | ok fl =>
    cases fl with
    | ret u => exact I1.after hq
    | next => exact False.elim hq
    | brk => exact False.elim hq
    | cont => exact False.elim hq
theorem takesL {A : Around} {outer : List Env} {s : Shared} {H : Hp} {f c' : Addr} : Takes (lamCx X A outer s H E scope f c') (fun cls d _ H => E cls d H) := takes_of rfl rfl rfl rfl
theorem passLm {A : Around} {outer : List Env} {s : Shared} {H : Hp} {f c' : Addr} : Passes (L2.CX X.prog X.w) (lamCx X A outer s H E scope f c') E := fun pins σ H1 s1 e s' I c => passes_call takesL (fun _ _ _ _ h => h) pins σ H1 s1 e s' I c
end
end K87
end

section
set_option Elab.async false
set_option linter.all false
set_option maxRecDepth 100000
set_option maxHeartbeats 1100000
set_option autoImplicit false
/-! A def whose code object is known (it makes lambdas). -/
namespace K87
open L2 PySem PySem.Spec PyProof.Rows
structure DefC (K : PySem.W.Frag) (mg : Str → Option Value) (x : Str) (st : Stmt) (f : Addr) (fd : FuncData) (c : Addr) : Prop where
  mgf : mg x = some (.ref f)
  kp : (PySem.W.keepIn K (.ref f)) = true
  ex : ∃ (oc : Value) (od : Option Addr) (dV kV doc pm : Value) (an : Option Addr) (ct : Value) (osl : Array (Option Value)),
    fd = PySem.W.fnOf x x (C8.fnArgs st) (C8.fnBody st) (C8.fnScope st) dV kV doc pm an (.ref c) ct ∧ K.lookup f = some ⟨oc, od, .func fd, osl⟩ ∧ PySem.W.codeIn K (.ref c) x = true
section
variable {base : Heap} {P : Program} {w : World} {K : PySem.W.Frag} {mg : Str → Option Value}
theorem calDC {x : Str} {st : Stmt} {f c : Addr} {fd : FuncData} {N ps : List Str} {lvl : Nat} {fs : FS} (D : DefC K mg x st f fd c) (b : Binds K fd ps []) (S : FnScope N ps (C8.fnScope st)) (len : ∀ as μ k F, fs as μ k F → as.length = ps.length)
    (hbody : ∀ (A : Around) (outer : List Env) (s : Shared) (H : Hp) (E : XK), Room lvl (A.deeper (PyProof.Rows.envOfC x (C8.fnScope st) s.heap.objs.size f (.ref c))) → ∀ as μ k F, fs as μ k F →
      dSs (XB P w K mg base N x st f (.ref c) A outer s H E) E0 F0 (C8.fnBody st) (startR N as) μ { nx := fun _ μ' => k nv μ', rt := k }) : C8.Cal P w K mg base (lvl + 1) x (spF K fs) [] := by
  obtain ⟨oc, od, dV, kV, doc, pm, an, ct, osl, rfl, lk, hcd⟩ := D.ex
  refine ⟨f, _, ps, [], fn_of lk hcd S (fun vs H Q E h => ?_) (fun A outer s H vs Q E hr h => ?_), D.mgf, D.kp, b, .nil⟩
  · obtain ⟨G, μ, as, k, F, r, m, h, _⟩ := h
    rw [Reps.len r]
    exact len as μ k F h
  · obtain ⟨G, μ, as, k, F, r, m, h, po, _⟩ := h
    have z : PSs (XB P w K mg base N x st f (.ref c) A outer s H E) (C8.fnBody st) (wSs (XB P w K mg base N x st f (.ref c) A outer s H E) (C8.fnBody st)) := pss_w
    refine ⟨_, z.nox, ?_⟩
    exact hbody A outer s H E hr as μ k F h (L2.start N vs) G H (start_sr r) m PostF.none _ ⟨fun σ' ρ' G' μ' H' h1 s1 m1 _ => po .non nv G' μ' H' h1 s1 m1 Dp.non, po, fun _ _ _ _ _ h1 => h1.elim, fun _ _ _ _ _ h1 => h1.elim⟩
end
end K87
end

section
set_option Elab.async false
set_option linter.all false
set_option maxRecDepth 100000
set_option maxHeartbeats 1100000
set_option autoImplicit false
namespace K87
open PySem PySem.Spec PyProof.Rows L2 K87M
/-- what the law's defs use of the class -/
structure SesP (P : Program) (w : World) (K : PySem.W.Frag) (mg : Str → Option Value) (base : Heap) (C SFa NUa : Addr) : Prop where
  S : SesC K C
  log : C8.Met P w K mg base 1 C "log" (spF K (fsLog C)) []
  eff : C8.Met P w K mg base 6 C "effect" (spF K (fsEff C)) []
  copy : C8.Met P w K mg base 9 C "copy" (spF K (fsCopy C)) []
  stk : ∃ (q0 f : Addr) (fd : FuncData), PropOf K C "stack" q0 f ∧ FnOk P w K mg base CX0 1 f fd ["self"] (spF K (fsStack C)) ∧ Binds K fd ["self"] []
  len : ∃ (f : Addr) (fd : FuncData), PySem.W.findIn K (.ref C) "__len__" = some (some (.ref f)) ∧ PySem.W.isFn K (.ref f) = true ∧ FnOk P w K mg base CX0 1 f fd ["self"] (spF K (fsLen C)) ∧ Binds K fd ["self"] []
  eq : ∃ (f : Addr) (fd : FuncData), PySem.W.findIn K (.ref C) "__eq__" = some (some (.ref f)) ∧ PySem.W.isFn K (.ref f) = true ∧ FnOk P w K mg base CX0 2 f fd ["self", "other"] (spF K (fsEq C)) ∧ Binds K fd ["self", "other"] []
  undo : ∃ f : Addr, Meth K C "undo" f ∧ FnR P w K mg base (L2.CX P w) 8 f (spF K (fsUndo C SFa NUa))
section
variable {P : Program} {w : World} {K : PySem.W.Frag} {mg : Str → Option Value} {base : Heap} {f : Addr} {fd : FuncData} {C SFa NUa : Addr}
/-! ### _law_stands -/
def fsStands (C : Addr) : FS := fun as μ k _ => ∃ (p : Addr) (g h : List Int) (ps : List (Str × K87M.Step)), Dec g ∧ g.length + total (stepsOf ps) < 50000 ∧ PsOk ps ∧ runF g 0 (stepsOf ps) = .inl h ∧ as = [rv p, .d (listL g), lv (ps.map pairD)] ∧ μ p = some (ses C g h ps) ∧ k (bv true) μ
theorem sc_stands : FnScope ["_law_session", "_law_heap_here", "_law_log", "_law_user", "_law_step"] ["_law_session", "_law_heap_here", "_law_log"] (C8.fnScope (top 66)) := C8.fnScope_by (by decide +kernel)
theorem cal_stands (D : C8.Def K mg "_law_stands" (top 66) f fd) (b : Binds K fd ["_law_session", "_law_heap_here", "_law_log"] []) (B : Bl mg) (SP : SesP P w K mg base C SFa NUa) (c_lruns : C8.Cal P w K mg base 1 "_law_runs" (spF K fsLRuns) []) (c_replay : C8.Cal P w K mg base 3 "_law_replay" (spF K fsReplay) []) (c_leff : C8.Cal P w K mg base 2 "_law_effect" (spF K fsLEff) []) :
    C8.Cal P w K mg base 7 "_law_stands" (spF K (fsStands C)) [] := by
  obtain ⟨qs, fs, fds, hps, Fs, bs⟩ := SP.stk
  obtain ⟨fl, fdl, hl1, hl2, Fl, bl⟩ := SP.len
  refine calD D b sc_stands (fun as μ k F ⟨_, _, _, _, _, _, _, _, h, _⟩ => by rw [h]; rfl) fun cdv A outer s H E hr as μ k F ⟨p, g, h, ps, dg, ht, ok, hrun, has, hp, hk⟩ => ?_
  subst has
  have hlen := runF_len hrun
  have hps1 : ps.length ≤ total (stepsOf ps) := by
    have := len_total (psOk_steps ok)
    rwa [List.length_map] at this
  refine s_cons ?_
  refine s_if ?_
  refine d_tW ?_
  refine d_wor ?_
  refine d_tcmp (op_neD hr.units) rfl ?_
  refine d_prop SP.S.cls hps Fs hr (by decide) bs ?_
  refine d_var 0 rfl ?_
  refine ⟨p, _, rfl, hp, ⟨p, g, h, ps, rfl, hp, ?_⟩⟩
  refine d_call c_lruns hr (by decide) rfl ?_
  refine d_cons ?_
  refine d_call c_replay hr (by decide) rfl ?_
  refine d_cons ?_
  refine d_var 1 rfl ?_
  refine d_cons ?_
  refine d_var 2 rfl ?_
  refine d_nil ?_
  refine ⟨_, ⟨g, ps, by omega, ok, rfl, rfl⟩, ?_⟩
  rw [hrun]
  refine d_nil ?_
  refine ⟨_, ⟨h, by omega, rfl, rfl⟩, ?_⟩
  refine dr_neG ⟨_, _, 2, 2, rfl, rfl, gd_rns 0 _, gd_rns 0 _, by decide, by decide, fun _ => ⟨_, rfl, fun hh => absurd hh (by decide), fun _ => ?_⟩, fun hh => absurd rfl hh⟩
  refine d_wor ?_
  refine d_tcmp (op_neD hr.units) rfl ?_
  refine d_frz ?_
  refine d_meth0 SP.log hr (by decide) ?_
  refine d_var 0 rfl ?_
  refine ⟨p, _, rfl, hp, rfl, ⟨p, g, h, ps, rfl, hp, by omega, fun q hq => ⟨q, _, rfl, mset_same, ?_⟩⟩⟩
  rw [mdel_mset hq]
  refine d_var 2 rfl ?_
  refine dr_neG ⟨_, _, 3, 3, rfl, rfl, gd_pairsL 0 ok, gd_pairsL 0 ok, by decide, by decide, fun _ => ⟨_, rfl, fun hh => absurd hh (by decide), fun _ => ?_⟩, fun hh => absurd rfl hh⟩
  refine d_wor1 ?_
  refine d_tcmp (op_neD hr.units) rfl ?_
  refine d_lenO Fl hr (by decide) bl hl1 hl2 rfl B.len ?_
  refine d_var 0 rfl ?_
  refine ⟨p, _, rfl, hp, ⟨p, g, h, ps, rfl, hp, ps.length, rfl, by omega, ?_⟩⟩
  refine d_len rfl B.len ?_
  refine d_var 2 rfl ?_
  refine ⟨_, .lst _, ?_⟩
  rw [List.length_map, List.length_map]
  refine dr_neG ⟨_, _, 0, 0, rfl, rfl, .int _ _, .int _ _, by decide, by decide, fun _ => ⟨_, rfl, fun hh => absurd hh (by decide), fun _ => ?_⟩, fun hh => absurd rfl hh⟩
  refine s_nil ?_
  refine s_cons ?_
  refine s_expr ?_
  refine d_append ?_
  refine d_meth0 SP.log hr (by decide) ?_
  refine d_var 0 rfl ?_
  refine ⟨p, _, rfl, hp, rfl, ⟨p, g, h, ps, rfl, hp, by omega, fun q hq => ⟨q, _, rfl, mset_same, ?_⟩⟩⟩
  refine d_non ?_
  refine ⟨_, mset_same, by rw [List.length_map, List.length_map]; omega, ?_⟩
  rw [mset_mset]
  refine s_drop q ?_
  rw [mdel_mset hq]
  refine s_one ?_
  refine s_ret ?_
  refine d_cmp (op_eqD hr.units) rfl ?_
  refine d_meth0 SP.eff hr (by decide) ?_
  refine d_var 0 rfl ?_
  refine ⟨p, _, rfl, hp, rfl, ⟨p, g, h, ps, ok, by omega, by omega, rfl, hp, ?_⟩⟩
  refine d_call c_leff hr (by decide) rfl ?_
  refine d_cons ?_
  refine d_lc2 3 4 [("_law_user", 3), ("_law_step", 4)] rfl sc_stands.nd (blkOk_by (N := ["_law_session", "_law_heap_here", "_law_log", "_law_user", "_law_step"]) (sc := C8.fnScope (top 66)) (by decide +kernel)) ?_
  refine i_list ?_
  refine d_var 2 rfl ?_
  refine ⟨_, .lst _, lcF_lcW ⟨.lst _, _, ps, fun a => .d (pairD a), fun a => some (stepD a.2), by rw [List.map_map]; rfl, by omega, fun a ha => ?_, ?_⟩⟩
  · refine ⟨_, rfl, ?_⟩
    refine ⟨rfl, fun h => absurd h (by decide), fun _ => ?_⟩
    intro s H0 C cl fp
    refine d_var 4 rfl ?_ -- step
    exact ⟨rfl, _, rfl, rfl⟩
  rw [List.filterMap_eq_map', show ps.map (fun a => stepD a.2) = (stepsOf ps).map stepD from stepsD_of _]
  refine d_nil ?_
  refine ⟨_, ⟨stepsOf ps, by rw [List.length_map]; omega, by omega, psOk_steps ok, rfl, rfl⟩, ?_⟩
  exact dr_eqG ⟨_, _, 3, 3, rfl, rfl, gd_eff 0 _ _ _, gd_eff 0 _ _ _, by decide, by decide, fun _ => hk, fun hh => absurd rfl hh⟩
end
end K87
end

section
set_option Elab.async false
set_option linter.all false
set_option maxRecDepth 100000
set_option maxHeartbeats 1100000
set_option autoImplicit false
namespace K87
open PySem PySem.Spec PyProof.Rows L2 K87M LamX
theorem places_snoc (ps : List (Str × K87M.Step)) (x : Str × K87M.Step) : places (ps ++ [x]) x.1 = places ps x.1 ++ [ps.length] := by
  unfold places
  rw [List.zipIdx_append, List.filterMap_append]
  simp
theorem dropAt_snoc (ps : List (Str × K87M.Step)) (x : Str × K87M.Step) : dropAt ps.length (ps ++ [x]) = ps := by
  unfold dropAt
  rw [List.take_left', List.drop_of_length_le (by rw [List.length_append]; simp), List.append_nil]
  rfl
section
variable {P : Program} {w : World} {K : PySem.W.Frag} {mg : Str → Option Value} {base : Heap} {f c Pt : Addr} {fd : FuncData} {C SFa NUa : Addr}
theorem gd_good (h : List Int) : Gd 3 (.list [.str "good", stk h]) := .lst _ _ fun y hy => by
  rcases (List.mem_cons.mp hy) with e | hy
  · subst e; exact .str _ _ (by decide +kernel)
  · rw [List.mem_singleton.mp hy]; exact gd_rns 0 _
theorem gd_noth {u : Str} (h : Usr u) : Gd 1 (.list [.str "nothing", .str u]) := .lst _ _ fun y hy => by
  rcases (List.mem_cons.mp hy) with e | hy
  · subst e; exact .str _ _ (by decide +kernel)
  · rw [List.mem_singleton.mp hy]; exact .str _ _ h.2
/-! ### _law_led_back -/
def qLed : Str := ("_law_led_back" : Str) ++ ".<locals>." ++ "<lambda>"
def fsLed (C Pt : Addr) : FS := fun as μ k _ => ∃ (p : Addr) (g h : List Int) (ps : List (Str × K87M.Step)), Dec g ∧ g.length + total (stepsOf ps) < 50000 ∧ PsOk ps ∧ runF g 0 (stepsOf ps) = .inl h ∧ as = [rv p, .d (listL g), lv (ps.map pairD)] ∧ μ p = some (ses C g h ps) ∧ μ Pt = some (.tab qLed) ∧ k (bv true) (mset μ p (ses C g g []))
abbrev NL : List Str := ["_law_session", "_law_heap_here", "_law_log", "_law_turn_here", "_law_user", "_law_told"]
theorem sc_led : FnScope NL ["_law_session", "_law_heap_here", "_law_log"] (C8.fnScope (top 67)) := C8.fnScope_by (by decide +kernel)
theorem cal_led (D : DefC K mg "_law_led_back" (top 67) f fd c) (b : Binds K fd ["_law_session", "_law_heap_here", "_law_log"] []) (B : Bl mg) (SP : SesP P w K mg base C SFa NUa) (hd : HdC K mg SFa NUa) {g0 : Addr} {fd0 : FuncData} (DH : C8.Def K mg "_law_heard" (top 62) g0 fd0) (bH : Binds K fd0 ["_law_call"] []) (TB : TabB base mg c Pt)
    (c_lruns : C8.Cal P w K mg base 1 "_law_runs" (spF K fsLRuns) []) (c_replay : C8.Cal P w K mg base 3 "_law_replay" (spF K fsReplay) []) : C8.Cal P w K mg base 11 "_law_led_back" (spF K (fsLed C Pt)) [] := by
  obtain ⟨fU, mU, FU⟩ := SP.undo
  obtain ⟨qs, fs, fds, hps, Fs, bs⟩ := SP.stk
  refine calDC D b sc_led (fun as μ k F ⟨_, _, _, _, _, _, _, _, h, _⟩ => by rw [h]; rfl) fun A outer s H E hr as μ k F ⟨p, g, h, ps, dg, ht, ok, hrun, has, hp, hPt, hk⟩ => ?_
  subst has
  have hne : Pt ≠ p := fun z => by rw [z, hp] at hPt; cases hPt
  have hps1 : ps.length ≤ total (stepsOf ps) := by
    have := len_total (psOk_steps ok)
    rwa [List.length_map] at this
  refine s_cons ?_
  refine s_forL PassesOwn.never rfl ?_
  refine i_range1 rfl B.range ?_
  refine d_cons ?_
  refine d_len rfl B.len ?_
  refine d_var 2 rfl ?_ -- _law_log
  refine ⟨_, .lst _, ?_⟩
  rw [List.length_map, List.length_map]
  refine d_nil ?_
  refine ⟨_, rfl, by omega, by omega, ?_⟩
  refine ⟨_, List.range ((ps.length : Int)).toNat, fun i => iv (0 + (i : Int)), fun d ρ' μ' => ∃ (h1 : List Int) (x y z : Option AV), runF g 0 (stepsOf (ps.take (ps.length - d.length))) = .inl h1 ∧ μ' = mset μ p (ses C g h1 (ps.take (ps.length - d.length))) ∧ ρ' = [some (rv p), some (.d (listL g)), some (lv ((ps.take (ps.length - d.length)).map pairD)), x, y, z], rfl, ⟨h, none, none, none, by simpa using hrun, ?_, by simp only [List.length_nil, Nat.sub_zero, List.take_length]; rfl⟩, fun d r ρ μ e h => trivial, fun d i r ρ μ' e hv => ?_, fun ρ μ' hv => ?_⟩
  · simp only [List.length_nil, Nat.sub_zero, List.take_length]
    funext x
    unfold mset
    by_cases z : x = p
    · rw [if_pos z, z]; exact hp
    · rw [if_neg z]
  · obtain ⟨h1, x, y, z, hr1, rfl, rfl⟩ := hv
    have hdl : d.length < ps.length := by
      have := congrArg List.length e
      rw [List.length_range, List.length_append, List.length_cons] at this
      omega
    obtain ⟨a, ha⟩ : ∃ a, ps.take (ps.length - d.length) = ps.take (ps.length - (d.length + 1)) ++ [a] := by
      refine ⟨ps[ps.length - (d.length + 1)], ?_⟩
      rw [show ps.length - d.length = (ps.length - (d.length + 1)) + 1 by omega, List.take_succ_eq_append_getElem (by omega)]
    generalize hi0 : ps.take (ps.length - (d.length + 1)) = i0 at ha
    have hok0 : PsOk (i0 ++ [a]) := fun y hy => ok y (List.mem_of_mem_take (by rw [ha]; exact hy))
    rw [ha] at hr1
    rw [ha]
    have hil : i0.length < 50000 := by rw [← hi0, List.length_take]; omega
    obtain ⟨h2, hr2⟩ := runF_left (a := stepsOf i0) (b := [a.2]) (by simpa [stepsOf] using hr1)
    have hlast : atI (((i0 ++ [a]).map pairD).map AV.d) (-1) = some (.d (pairD a)) := by
      rw [List.map_append, List.map_append]
      exact atI_last _ _
    refine g_name 3 ?_ sc_led.nd
    refine s_cons ?_
    refine s_set 4 ?_ sc_led.nd -- _law_user
    refine d_ix ?_
    refine d_ix ?_
    refine d_var 2 rfl ?_ -- _law_log
    refine d_neg ?_
    refine d_int ?_
    refine ⟨_, rfl, ?_⟩
    refine ⟨_, _, _, .lst _, rfl, hlast, ?_⟩
    refine d_int ?_
    refine ⟨_, _, sv a.1, .tup _, rfl, rfl, ?_⟩
    refine s_cons ?_
    refine s_set 5 ?_ sc_led.nd -- _law_told
    refine d_heard hd DH bH rfl TB rfl hr (show LamS (C8.fnScope (top 67)) _ from lamS_by (by decide +kernel)) rfl (fun _ _ _ _ _ => rfl) ((mset_ne hne).trans hPt) fun A1 outer1 s1 H1 E1 f1 c1 hr1' => ?_
    have epl := places_snoc i0 a
    refine d_methR SP.S.cls mU FU hr1' (by decide) (passLm (X := XB P w K mg base NL "_law_led_back" (top 67) f (.ref c) A outer s H E)) ?_
    refine d_var 0 rfl ?_
    refine ⟨p, _, rfl, mset_same, rfl, ?_⟩
    refine d_cons ?_
    refine d_var 4 rfl ?_
    refine d_nil ?_
    have hst : stepsOf (i0 ++ [a]) = stepsOf i0 ++ [a.2] := by simp [stepsOf]
    have htl : total (stepsOf (i0 ++ [a])) ≤ total (stepsOf ps) := total_sub ((by rw [← ha]; exact List.take_sublist _ _ : (i0 ++ [a]).Sublist ps).map _)
    refine ⟨p, g, h1, i0 ++ [a], a.1, dg, by omega, hok0, (hok0 a (by simp)).1, rfl, mset_same, fun hpl => ?_, fun i1 j hj => ?_⟩
    · rw [epl] at hpl; simp at hpl
    rw [epl] at hj
    obtain ⟨_, hj⟩ := List.append_inj' hj rfl
    obtain rfl : j = i0.length := by simpa using hj.symm
    rw [dropAt_snoc]
    refine ⟨fun h' hh q hq => ?_, fun i hi => ?_⟩
    · rw [hr2] at hh
      cases hh
      rw [mset_mset] at hq ⊢
      obtain ⟨hqp, hq0⟩ := new_ne hq
      refine s_freeze 5 (q := q) (ds := [.str "good", stk h2]) rfl mset_same ?_
      rw [mdel_mset hq]
      have hlen2 := runF_len hr2
      have ht0 : total (stepsOf i0) ≤ total (stepsOf (i0 ++ [a])) := total_sub ((List.sublist_append_left _ _).map _)
      have hok1 : PsOk i0 := fun y hy => hok0 y (List.mem_append_left _ hy)
      have hi0l : i0.length ≤ total (stepsOf i0) := by
        have := len_total (psOk_steps hok1)
        rwa [List.length_map] at this
      refine s_cons ?_
      refine s_set 2 ?_ sc_led.nd -- _law_log
      refine d_slL ?_
      refine d_var 2 rfl ?_
      refine d_onone ?_
      refine d_osome ?_
      refine d_neg ?_
      refine d_int ?_
      refine ⟨_, rfl, ?_⟩
      refine ⟨_, rfl, ?_⟩
      refine ⟨_, .lst _, .inl ⟨i0.map pairD, ?_, ?_⟩⟩
      · rw [List.map_append, List.map_append]
        exact cut_init _ _
      refine s_one ?_
      refine s_if ?_
      refine d_tW ?_
      refine d_wor ?_
      refine d_tcmp (op_neD hr.units) rfl ?_
      refine d_var 5 rfl ?_
      refine d_lst ?_
      refine d_cons ?_
      refine d_str ?_
      refine d_cons ?_
      refine d_call c_lruns hr (by decide) rfl ?_
      refine d_cons ?_
      refine d_call c_replay hr (by decide) rfl ?_
      refine d_cons ?_
      refine d_var 1 rfl ?_
      refine d_cons ?_
      refine d_var 2 rfl ?_
      refine d_nil ?_
      refine ⟨_, ⟨g, i0, by omega, hok1, rfl, rfl⟩, ?_⟩
      rw [hr2]
      refine d_nil ?_
      refine ⟨_, ⟨h2, by omega, rfl, rfl⟩, ?_⟩
      refine d_nil ?_
      refine ⟨by simp, .inl ⟨[.str "good", stk h2], rfl, ?_⟩⟩
      refine dr_neG ⟨_, _, 3, 3, rfl, rfl, gd_good h2, gd_good h2, by decide, by decide, fun _ => ⟨_, rfl, fun hh => absurd hh (by decide), fun _ => ?_⟩, fun hh => absurd rfl hh⟩
      refine d_wor1 ?_
      refine d_tcmp (op_neD hr.units) rfl ?_
      refine d_frz ?_
      refine d_meth0 SP.log hr (by decide) ?_
      refine d_var 0 rfl ?_
      refine ⟨p, _, rfl, mset_same, rfl, ⟨p, g, h2, i0, rfl, mset_same, by omega, fun q2 hq2 => ⟨q2, _, rfl, mset_same, ?_⟩⟩⟩
      rw [mdel_mset hq2]
      refine d_var 2 rfl ?_
      refine dr_neG ⟨_, _, 3, 3, rfl, rfl, gd_pairsL 0 hok1, gd_pairsL 0 hok1, by decide, by decide, fun _ => ⟨_, rfl, fun hh => absurd hh (by decide), fun _ => ?_⟩, fun hh => absurd rfl hh⟩
      refine s_nil ?_
      have el : (d ++ [i]).length = d.length + 1 := by rw [List.length_append]; rfl
      exact ⟨h2, some (iv (0 + (i : Int))), some (sv a.1), some (lv [.str "good", stk h2]), by rw [el, hi0]; exact hr2, by rw [el, hi0], by rw [el, hi0]; rfl⟩
    · rw [hr2] at hi; cases hi
  · obtain ⟨h1, x, y, z, hr1, rfl, rfl⟩ := hv
    have e0 : ps.take (ps.length - (List.range ((ps.length : Int)).toNat).length) = [] := by rw [List.length_range, show ps.length - ((ps.length : Int)).toNat = 0 by omega]; rfl
    rw [e0] at hr1
    rw [e0]
    obtain rfl : g = h1 := by
      have : runF g 0 [] = Sum.inl h1 := hr1
      cases this; rfl
    have hPt2 : mset μ p (ses C g g []) Pt = some (.tab qLed) := (mset_ne hne).trans hPt
    refine s_one ?_
    refine s_ret ?_
    refine d_and ?_
    refine d_cmp (op_eqD hr.units) rfl ?_
    refine d_prop SP.S.cls hps Fs hr (by decide) bs ?_
    refine d_var 0 rfl ?_
    refine ⟨p, _, rfl, mset_same, ⟨p, g, g, [], rfl, mset_same, ?_⟩⟩
    refine d_call c_lruns hr (by decide) rfl ?_
    refine d_cons ?_
    refine d_var 1 rfl ?_
    refine d_nil ?_
    refine ⟨_, ⟨g, by omega, rfl, rfl⟩, ?_⟩
    refine dr_eqG ⟨_, _, 2, 2, rfl, rfl, gd_rns 0 _, gd_rns 0 _, by decide, by decide, fun _ => ⟨_, rfl, fun _ => ?_, fun hh => absurd hh (by decide)⟩, fun hh => absurd rfl hh⟩
    refine d_one ?_
    refine d_cmp (op_eqD hr.units) rfl ?_
    refine d_frz ?_
    refine d_heard hd DH bH rfl TB rfl hr (show LamS (C8.fnScope (top 67)) _ from lamS_by (by decide +kernel)) rfl (fun _ _ _ _ _ => rfl) hPt2 fun A1 outer1 s1 H1 E1 f1 c1 hr1' => ?_
    refine d_methR SP.S.cls mU FU hr1' (by decide) (passLm (X := XB P w K mg base NL "_law_led_back" (top 67) f (.ref c) A outer s H E)) ?_
    refine d_var 0 rfl ?_
    refine ⟨p, _, rfl, mset_same, rfl, ?_⟩
    refine d_cons ?_
    refine d_str ?_
    refine d_nil ?_
    refine ⟨p, g, g, [], "ann", dg, by show g.length + 0 < _; omega, fun y hy => (nomatch hy), usr_ann, rfl, mset_same, fun _ => .inr ⟨rfl, rfl, fun q hq => ?_⟩, fun i1 j hj => by have := congrArg List.length hj; simp [places] at this⟩
    refine ⟨q, [.str "nothing", .str "ann"], rfl, mset_same, ?_⟩
    rw [mdel_mset hq]
    refine d_lst ?_
    refine d_cons ?_
    refine d_str ?_
    refine d_cons ?_
    refine d_str ?_
    refine d_nil ?_
    refine ⟨by simp, .inl ⟨[.str "nothing", .str "ann"], rfl, ?_⟩⟩
    exact dr_eqG ⟨_, _, 1, 1, rfl, rfl, gd_noth usr_ann, gd_noth usr_ann, by decide, by decide, fun _ => hk, fun hh => absurd rfl hh⟩
end
end K87
end

section
set_option Elab.async false
set_option linter.all false
set_option maxRecDepth 100000
set_option maxHeartbeats 1100000
set_option autoImplicit false
namespace K87
open PySem PySem.Spec PyProof.Rows L2 K87M LamX
theorem mset_id {μ : Mu} {p : Addr} {o : RO} (h : μ p = some o) : mset μ p o = μ := by
  funext x
  unfold mset
  by_cases z : x = p
  · rw [if_pos z, z]; exact h.symm
  · rw [if_neg z]
theorem us_at {r : Int} (h0 : 0 ≤ r) (h1 : r < 3) : ∃ u : Str, Usr u ∧ atI (([.str "ann", .str "b", .str "abcdefgh"] : List PyData).map AV.d) r = some (sv u) := by
  have h : r = 0 ∨ r = 1 ∨ r = 2 := by omega
  rcases h with rfl | rfl | rfl
  · exact ⟨_, usr_ann, rfl⟩
  · exact ⟨_, usr_b, rfl⟩
  · exact ⟨_, usr_abc, rfl⟩
theorem psOk_app {ps : List (Str × K87M.Step)} {u : Str} {ss : List K87M.Step} (h : PsOk ps) (hu : Usr u) (hs : ∀ s ∈ ss, s.Ok) : PsOk (ps ++ ss.map fun s => (u, s)) := fun x hx => by
  rcases (List.mem_append.mp hx) with q | q
  · exact h x q
  · obtain ⟨s, hs', rfl⟩ := List.mem_map.mp q
    exact ⟨hu, hs s hs'⟩
theorem steps_app (ps : List (Str × K87M.Step)) (u : Str) (ss : List K87M.Step) : stepsOf (ps ++ ss.map fun s => (u, s)) = stepsOf ps ++ ss := by
  unfold stepsOf
  rw [List.map_append, List.map_map]
  congr 1
  exact List.map_id _
theorem total_le : ∀ {ss : List K87M.Step} {m : Nat}, (∀ s ∈ ss, s.cnt ≤ m) → total ss ≤ m * ss.length
  | [], m, _ => Nat.zero_le _
  | s :: r, m, h => by
    have h1 := total_le (ss := r) (m := m) fun x hx => h x (List.mem_cons_of_mem _ hx)
    have h2 := h s (List.mem_cons_self ..)
    rw [total_cons, List.length_cons, Nat.mul_add, Nat.mul_one]
    omega
theorem gd_fail {i : Nat} : Gd 1 (.list [.str "failed", .int (i : Int)]) := .lst _ _ fun y hy => by
  rcases (List.mem_cons.mp hy) with e | hy
  · subst e; exact .str _ _ (by decide +kernel)
  · rw [List.mem_singleton.mp hy]; exact .int _ _
theorem kt_li : kitB "list" "int" = some false := by decide +kernel
def qTurn : Str := ("_law_turn" : Str) ++ ".<locals>." ++ "<lambda>"
section
variable {P : Program} {w : World} {K : PySem.W.Frag} {mg : Str → Option Value} {base : Heap} {f c Pt : Addr} {fd : FuncData} {C SFa NUa : Addr}
def fsTurn (C Pt : Addr) : FS := fun as μ k _ => ∃ (q p : Addr) (a b : Int) (g h : List Int) (ps : List (Str × K87M.Step)) (ns : List Int), Dec g ∧ g.length + total (stepsOf ps) + 18 < 50000 ∧ PsOk ps ∧ runF g 0 (stepsOf ps) = .inl h ∧ ns.length < 1000 ∧
  as = [rv q, rv p, .d (listL g), lv (ps.map pairD), lv (ns.map .int)] ∧ μ q = some (pl a b) ∧ μ p = some (ses C g h ps) ∧ μ Pt = some (.tab qTurn) ∧
  ∀ (ps' : List (Str × K87M.Step)) (h' : List Int) (a' b' : Int), PsOk ps' → runF g 0 (stepsOf ps') = .inl h' → total (stepsOf ps') ≤ total (stepsOf ps) + 18 → k (tv [.bool true, .list (ps'.map pairD)]) (mset (mset μ q (pl a' b')) p (ses C g h' ps'))
abbrev NT : List Str := ["_law_pool_here", "_law_session", "_law_heap_here", "_law_log", "_law_numbers_here", "_law_user", "_law_spots", "_law_told", "_law_later", "_law_found", "_law_steps_here", "_law_at", "_law_pair", "_law_step"]
theorem sc_turn : FnScope NT ["_law_pool_here", "_law_session", "_law_heap_here", "_law_log", "_law_numbers_here"] (C8.fnScope (top 65)) := C8.fnScope_by (by decide +kernel)
theorem cal_turn (D : DefC K mg "_law_turn" (top 65) f fd c) (b : Binds K fd ["_law_pool_here", "_law_session", "_law_heap_here", "_law_log", "_law_numbers_here"] []) (B : Bl mg) (SP : SesP P w K mg base C SFa NUa) (hd : HdC K mg SFa NUa) {g0 : Addr} {fd0 : FuncData} (DH : C8.Def K mg "_law_heard" (top 62) g0 fd0) (bH : Binds K fd0 ["_law_call"] []) (TB : TabB base mg c Pt)
    (c_users : C8.Cal P w K mg base 1 "_law_users" (spF K fsUsers) []) (c_take : C8.Cal P w K mg base 1 "_law_take" (spF K fsTake) []) (c_steps : C8.Cal P w K mg base 2 "_law_steps" (spF K fsMkSteps) []) (c_lrun : C8.Cal P w K mg base 2 "_law_run" (spF K fsLRun) [])
    (c_given : CalX P w K mg base 10 "_law_given" (spF K (fsGiven C SFa)))
    (c_lruns : C8.Cal P w K mg base 1 "_law_runs" (spF K fsLRuns) []) (c_replay : C8.Cal P w K mg base 3 "_law_replay" (spF K fsReplay) []) : C8.Cal P w K mg base 13 "_law_turn" (spF K (fsTurn C Pt)) [] := by
  obtain ⟨fU, mU, FU⟩ := SP.undo
  refine calDC D b sc_turn (fun as μ k F ⟨_, _, _, _, _, _, _, _, _, _, _, _, _, h, _⟩ => by rw [h]; rfl) fun A outer s H E hr as μ k F ⟨q, p, a, b, g, h, ps, ns, dg, ht, ok, hrun, hns, has, hq, hp, hPt, hk⟩ => ?_
  subst has
  have hpq : p ≠ q := fun z => by rw [z, hq] at hp; cases hp
  have hPq : Pt ≠ q := fun z => by rw [z, hq] at hPt; cases hPt
  have hPp : Pt ≠ p := fun z => by rw [z, hp] at hPt; cases hPt
  have hps1 : ps.length ≤ total (stepsOf ps) := by
    have := len_total (psOk_steps ok)
    rwa [List.length_map] at this
  have hhl := runF_len hrun
  refine s_cons ?_
  refine s_set 5 ?_ sc_turn.nd -- _law_user
  refine d_ix ?_
  refine d_callC0 c_users hr (by decide) rfl ?_
  refine ⟨rfl, ?_⟩
  refine d_call c_take hr (by decide) rfl ?_
  refine d_cons ?_
  refine d_var 0 rfl ?_ -- _law_pool_here
  refine d_cons ?_
  refine d_int ?_
  refine d_nil ?_
  refine ⟨q, a, b, 3, by decide, by decide, rfl, hq, fun r1 a1 b1 h0 h1 => ?_⟩ -- _law_take
  obtain ⟨u, hu, hat⟩ := us_at h0 h1
  refine ⟨_, _, _, .lst _, rfl, hat, ?_⟩
  refine s_cons ?_
  refine s_if ?_
  refine d_tcmp (op_eqD hr.units) rfl ?_
  refine d_call c_take hr (by decide) rfl ?_
  refine d_cons ?_
  refine d_var 0 rfl ?_ -- _law_pool_here
  refine d_cons ?_
  refine d_int ?_
  refine d_nil ?_
  refine ⟨q, a1, b1, 4, by decide, by decide, rfl, mset_same, fun r2 a2 b2 h0 h1 => ?_⟩ -- _law_take
  rw [mset_mset]
  refine d_int ?_
  refine dr_eqG ⟨_, _, 0, 0, rfl, rfl, .int _ _, .int _ _, by decide, by decide, fun _ => ⟨_, rfl, fun _ => ?_, fun hh => absurd hh (by decide)⟩, fun _ => ⟨_, rfl, fun hh => absurd hh (by decide), fun _ => ?_⟩⟩
  · have hp1 : mset μ q (pl a2 b2) p = some (ses C g h ps) := (mset_ne hpq).trans hp
    have hP1 : mset μ q (pl a2 b2) Pt = some (.tab qTurn) := (mset_ne hPq).trans hPt
    have hk1 := fun ps' h' h1 h2 h3 => hk ps' h' a2 b2 h1 h2 h3
    have hk0 := hk1 ps h ok hrun (Nat.le_add_right _ _)
    rw [mset_id hp1] at hk0
    generalize mset μ q (pl a2 b2) = μ1 at *
    refine s_cons ?_
    refine s_setLc2 11 12 6 [("_law_at", 11), ("_law_pair", 12)] rfl sc_turn.nd (blkOk_by (N := NT) (sc := C8.fnScope (top 65)) (by decide +kernel)) ?_ (sw_true rfl rfl rfl (by decide +kernel))
    refine i_enumL rfl B.enumerate ?_
    refine d_var 3 rfl ?_ -- _law_log
    refine ⟨_, .lst _, fun x hx j z e => ?_, lcF_lcW ⟨.lst _, _, ps.zipIdx, fun x => tv [.int (x.2 : Int), pairD x.1], fun x => if x.1.1 = u then some (PyData.int (x.2 : Int)) else none, enAll_pairs ps, by rw [List.length_zipIdx]; omega, fun a ha => ?_, ?_⟩⟩
    · obtain ⟨y, _, rfl⟩ := List.mem_map.mp hx
      cases e
    · have hmem : a.1 ∈ ps := List.mem_of_getElem? (List.mem_zipIdx_iff_getElem?.mp ha)
      refine ⟨_, rfl, ?_⟩
      intro s H0 C cl fp
      refine d_tcmp (op_eqD hr.units) rfl ?_
      refine d_ix ?_
      refine d_var 12 rfl ?_ -- _law_pair
      refine d_int ?_
      refine ⟨_, _, sv a.1.1, .tup _, rfl, rfl, ?_⟩
      refine d_var 5 rfl ?_ -- _law_user
      refine dr_eqG ⟨_, _, 0, 0, rfl, rfl, .str _ _ (ok _ hmem).1.2, .str _ _ hu.2, by decide, by decide, fun h => ⟨_, rfl, rfl, fun h => absurd h (by decide), fun _ => ?_⟩, fun h => ⟨_, rfl, rfl, fun _ => if_neg fun z => h (by rw [z]), fun h => absurd h (by decide)⟩⟩
      have hau : a.1.1 = u := by injection h
      intro s H0 C cl fp
      refine d_var 11 rfl ?_ -- _law_at
      exact ⟨rfl, _, if_pos hau, rfl⟩
    rw [placesD]
    refine s_cons ?_
    refine s_set 7 ?_ sc_turn.nd -- _law_told
    refine dE.mono (k := fun x μ' => ∃ (l : Addr) (tl : List PyData) (μ2 : Mu), x = rv l ∧ μ2 l = none ∧ μ' = mset μ2 l (.lst (tl.map .d)) ∧
      ((places ps u = [] ∧ tl = [.str "nothing", .str u] ∧ μ2 = μ1) ∨ ∃ i0 j, places ps u = i0 ++ [j] ∧
        ((∃ h', runF g 0 (stepsOf (dropAt j ps)) = .inl h' ∧ tl = [.str "good", stk h'] ∧ μ2 = mset μ1 p (ses C g h' (dropAt j ps))) ∨ ∃ i : Nat, runF g 0 (stepsOf (dropAt j ps)) = .inr i ∧ tl = [.str "failed", .int (i : Int)] ∧ μ2 = μ1))) ?_ fun x μ' hx => ?_
    · refine d_heard hd DH bH rfl TB rfl hr (show LamS (C8.fnScope (top 65)) _ from lamS_by (by decide +kernel)) rfl (fun _ _ _ _ _ => rfl) hP1 fun A1 outer1 s1 H1 E1 f1 c1 hr1' => ?_
      refine d_methR SP.S.cls mU FU hr1' (by decide) (passLm (X := XB P w K mg base NT "_law_turn" (top 65) f (.ref c) A outer s H E)) ?_
      refine d_var 1 rfl ?_
      refine ⟨p, _, rfl, hp1, rfl, ?_⟩
      refine d_cons ?_
      refine d_var 5 rfl ?_
      refine d_nil ?_
      refine ⟨p, g, h, ps, u, dg, by omega, ok, hu, rfl, hp1, fun hpl => .inr ⟨rfl, rfl, fun l hl => ?_⟩, fun i0 j hj => ⟨fun h' hh l hl => ?_, fun i hi => .inl ⟨rfl, rfl, fun l hl => ?_⟩⟩⟩
      · exact ⟨l, [.str "nothing", .str u], μ1, rfl, hl, rfl, .inl ⟨hpl, rfl, rfl⟩⟩
      · exact ⟨l, [.str "good", stk h'], _, rfl, hl, rfl, .inr ⟨i0, j, hj, .inl ⟨h', hh, rfl, rfl⟩⟩⟩
      · exact ⟨l, [.str "failed", .int (i : Int)], μ1, rfl, hl, rfl, .inr ⟨i0, j, hj, .inr ⟨i, hi, rfl, rfl⟩⟩⟩
    obtain ⟨l, tl, μ2, rfl, hl, rfl, hcase⟩ := hx
    refine s_freeze 7 (q := l) (ds := tl) rfl mset_same ?_
    rw [mdel_mset hl]
    refine s_cons ?_
    refine s_if ?_
    refine d_tcmp (op_eqD hr.units) rfl ?_
    refine d_var 6 rfl ?_ -- _law_spots
    refine d_lst ?_
    refine d_nil ?_
    refine ⟨by simp, .inl ⟨[], rfl, ?_⟩⟩
    refine dr_eqG ⟨_, _, 1, 1, rfl, rfl, gd_ints 0 _, gd_nilL 0, by decide, by decide, fun hh => ⟨_, rfl, fun _ => ?_, fun h => absurd h (by decide)⟩, fun hh => ⟨_, rfl, fun h => absurd h (by decide), fun _ => ?_⟩⟩
    · have hnil := list_int_nil.mp hh
      rcases hcase with ⟨_, rfl, rfl⟩ | ⟨i0, j, hj, _⟩
      · refine s_one ?_
        refine s_ret ?_
        refine d_tup ?_
        refine d_cons ?_
        refine d_cmp (op_eqD hr.units) rfl ?_
        refine d_var 7 rfl ?_ -- _law_told
        refine d_lst ?_
        refine d_cons ?_
        refine d_str ?_
        refine d_cons ?_
        refine d_var 5 rfl ?_ -- _law_user
        refine d_nil ?_
        refine ⟨by simp, .inl ⟨[.str "nothing", .str u], rfl, ?_⟩⟩
        refine dr_eqG ⟨_, _, 1, 1, rfl, rfl, gd_noth hu, gd_noth hu, by decide, by decide, fun _ => ?_, fun hh => absurd rfl hh⟩
        refine d_cons ?_
        refine d_var 3 rfl ?_ -- _law_log
        refine d_nil ?_
        exact ⟨[.bool true, .list (ps.map pairD)], rfl, by simp, hk0⟩
      · rw [hnil] at hj; simp at hj
    have hne : places ps u ≠ [] := fun z => hh (list_int_nil.mpr z)
    rcases hcase with ⟨hz, _⟩ | ⟨i0, j, hj, hcase⟩
    · exact absurd hz hne
    have jl : j < ps.length := places_lt (u := u) (by rw [hj]; simp)
    have hlast : atI (((places ps u).map fun (j : Nat) => PyData.int (j : Int)).map AV.d) (-1) = some (iv (j : Int)) := by
      rw [hj, List.map_append, List.map_append]
      exact atI_last _ _
    refine s_nil ?_
    refine s_cons ?_
    refine s_set 8 ?_ sc_turn.nd -- _law_later
    refine d_catL ?_
    refine d_slL ?_
    refine d_var 3 rfl ?_ -- _law_log
    refine d_onone ?_
    refine d_osome ?_
    refine d_ix ?_
    refine d_var 6 rfl ?_ -- _law_spots
    refine d_neg ?_
    refine d_int ?_
    refine ⟨_, rfl, ?_⟩
    refine ⟨_, _, _, .lst _, rfl, hlast, ?_⟩
    refine ⟨_, rfl, ?_⟩
    refine ⟨_, .lst _, .inl ⟨(ps.take j).map pairD, ?_, ?_⟩⟩
    · rw [cut_take (by rw [List.length_map, List.length_map]; omega), ← List.map_take, ← List.map_take]
    refine d_slL ?_
    refine d_var 3 rfl ?_ -- _law_log
    refine d_osome ?_
    refine d_add ?_
    refine d_ix ?_
    refine d_var 6 rfl ?_ -- _law_spots
    refine d_neg ?_
    refine d_int ?_
    refine ⟨_, rfl, ?_⟩
    refine ⟨_, _, _, .lst _, rfl, hlast, ?_⟩
    refine d_int ?_
    refine ⟨_, _, rfl, rfl, ?_⟩
    refine ⟨_, rfl, ?_⟩
    refine d_onone ?_
    refine ⟨_, .lst _, .inl ⟨(ps.drop (j + 1)).map pairD, ?_, ?_⟩⟩
    · rw [show ((j : Int) + 1) = ((j + 1 : Nat) : Int) by omega, cut_drop (by rw [List.length_map, List.length_map]; omega), ← List.map_drop, ← List.map_drop]
    refine ⟨_, _, .lst _, .lst _, ?_, .inl ⟨(dropAt j ps).map pairD, ?_, ?_⟩⟩
    · rw [List.length_map, List.length_map, List.length_map, List.length_map, List.length_take, List.length_drop]
      omega
    · rw [← List.map_append, ← List.map_append]; rfl
    have hsub := dropAt_sub j ps
    have htot : total (stepsOf (dropAt j ps)) ≤ total (stepsOf ps) := total_sub (hsub.map _)
    refine s_cons ?_
    refine s_set 9 ?_ sc_turn.nd -- _law_found
    refine d_call c_replay hr (by decide) rfl ?_
    refine d_cons ?_
    refine d_var 2 rfl ?_ -- _law_heap_here
    refine d_cons ?_
    refine d_var 8 rfl ?_ -- _law_later
    refine d_nil ?_
    refine ⟨_, ⟨g, dropAt j ps, by omega, psOk_drop ok j, rfl, rfl⟩, ?_⟩ -- _law_replay
    refine s_cons ?_
    refine s_if ?_
    refine d_tval ?_
    refine d_isi rfl B.isinstance rfl B.int bt_int ?_
    refine d_var 9 rfl ?_ -- _law_found
    rcases hcase with ⟨h', hh', rfl, rfl⟩ | ⟨i, hi, rfl, rfl⟩
    · rw [hh']
      refine ⟨_, _, rfl, kt_li, _, rfl, fun h => absurd h (by decide), fun _ => ?_⟩
      refine s_nil ?_
      have hl2 := runF_len hh'
      refine s_one ?_
      refine s_ret ?_
      refine d_tup ?_
      refine d_cons ?_
      refine d_cmp (op_eqD hr.units) rfl ?_
      refine d_var 7 rfl ?_ -- _law_told
      refine d_lst ?_
      refine d_cons ?_
      refine d_str ?_
      refine d_cons ?_
      refine d_call c_lruns hr (by decide) rfl ?_
      refine d_cons ?_
      refine d_var 9 rfl ?_ -- _law_found
      refine d_nil ?_
      refine ⟨_, ⟨h', by omega, rfl, rfl⟩, ?_⟩ -- _law_runs
      refine d_nil ?_
      refine ⟨by simp, .inl ⟨[.str "good", stk h'], rfl, ?_⟩⟩
      refine dr_eqG ⟨_, _, 3, 3, rfl, rfl, gd_good h', gd_good h', by decide, by decide, fun _ => ?_, fun hh => absurd rfl hh⟩
      refine d_cons ?_
      refine d_var 8 rfl ?_ -- _law_later
      refine d_nil ?_
      exact ⟨[.bool true, .list ((dropAt j ps).map pairD)], rfl, by simp, hk1 _ h' (psOk_drop ok j) hh' (by omega)⟩
    · rw [hi]
      refine ⟨_, _, rfl, kt_ii, _, rfl, fun _ => ?_, fun h => absurd h (by decide)⟩
      refine s_one ?_
      refine s_ret ?_
      refine d_tup ?_
      refine d_cons ?_
      refine d_cmp (op_eqD hr.units) rfl ?_
      refine d_var 7 rfl ?_ -- _law_told
      refine d_lst ?_
      refine d_cons ?_
      refine d_str ?_
      refine d_cons ?_
      refine d_var 9 rfl ?_ -- _law_found
      refine d_nil ?_
      refine ⟨by simp, .inl ⟨[.str "failed", .int (i : Int)], rfl, ?_⟩⟩
      refine dr_eqG ⟨_, _, 1, 1, rfl, rfl, gd_fail, gd_fail, by decide, by decide, fun _ => ?_, fun hh => absurd rfl hh⟩
      refine d_cons ?_
      refine d_var 3 rfl ?_ -- _law_log
      refine d_nil ?_
      exact ⟨[.bool true, .list (ps.map pairD)], rfl, by simp, hk0⟩
  refine s_nil ?_
  refine s_cons ?_
  refine s_set 10 ?_ sc_turn.nd -- _law_steps_here
  refine d_call c_steps hr (by decide) rfl ?_
  refine d_cons ?_
  refine d_var 0 rfl ?_ -- _law_pool_here
  refine d_cons ?_
  refine d_var 4 rfl ?_ -- _law_numbers_here
  refine d_cons ?_
  refine d_ix ?_
  refine d_lst ?_
  refine d_cons ?_
  refine d_call c_take hr (by decide) rfl ?_
  refine d_cons ?_
  refine d_var 0 rfl ?_ -- _law_pool_here
  refine d_cons ?_
  refine d_int ?_
  refine d_nil ?_
  refine ⟨q, a2, b2, 4, by decide, by decide, rfl, mset_same, fun r3 a3 b3 h30 h31 => ?_⟩ -- _law_take
  rw [mset_mset]
  refine d_cons ?_
  refine d_call c_take hr (by decide) rfl ?_
  refine d_cons ?_
  refine d_var 0 rfl ?_ -- _law_pool_here
  refine d_cons ?_
  refine d_int ?_
  refine d_nil ?_
  refine ⟨q, a3, b3, 7, by decide, by decide, rfl, mset_same, fun r4 a4 b4 h40 h41 => ?_⟩ -- _law_take
  rw [mset_mset]
  refine d_nil ?_
  refine ⟨by simp, .inl ⟨List.map PyData.int [_, _], rfl, ?_⟩⟩
  refine d_call c_take hr (by decide) rfl ?_
  refine d_cons ?_
  refine d_var 0 rfl ?_ -- _law_pool_here
  refine d_cons ?_
  refine d_int ?_
  refine d_nil ?_
  refine ⟨q, a4, b4, 2, by decide, by decide, rfl, mset_same, fun r5 a5 b5 h50 h51 => ?_⟩ -- _law_take
  rw [mset_mset]
  obtain ⟨n1, hn1, hmem⟩ := at_int (l := [r3, r4]) h50 h51
  have hn2 : 0 ≤ n1 ∧ n1 ≤ 6 := by
    simp only [List.mem_cons, List.not_mem_nil, or_false] at hmem
    omega
  obtain ⟨m, rfl⟩ := Int.eq_ofNat_of_zero_le hn2.1
  refine ⟨_, _, _, .lst _, rfl, hn1, ?_⟩
  refine d_cons ?_
  refine d_int ?_
  refine d_nil ?_
  refine ⟨q, a5, b5, ns, m, 3, by omega, by decide, by decide, hns, rfl, mset_same, fun ss a6 b6 hss hok => ?_⟩ -- _law_steps
  rw [mset_mset]
  have hp1 : mset μ q (pl a6 b6) p = some (ses C g h ps) := (mset_ne hpq).trans hp
  have hP1 : mset μ q (pl a6 b6) Pt = some (.tab qTurn) := (mset_ne hPq).trans hPt
  have hk1 := fun ps' h' h1 h2 h3 => hk ps' h' a6 b6 h1 h2 h3
  have hk0 := hk1 ps h ok hrun (Nat.le_add_right _ _)
  rw [mset_id hp1] at hk0
  generalize mset μ q (pl a6 b6) = μ1 at *
  have hso : ∀ s ∈ ss, s.Ok := fun s hs => (hok s hs).1
  have hst : total ss ≤ 18 := by
    have := total_le (m := 3) fun s hs => (hok s hs).2
    omega
  refine s_cons ?_
  refine s_set 7 ?_ sc_turn.nd -- _law_told
  refine dE.mono (k := fun x μ' => ∃ (l : Addr) (tl : List PyData) (μ2 : Mu), x = rv l ∧ μ2 l = none ∧ μ' = mset μ2 l (.lst (tl.map .d)) ∧
      ((∃ h', runF h 0 ss = .inl h' ∧ tl = [.str "good", stk h'] ∧ μ2 = mset μ1 p (ses C g h' (ps ++ ss.map fun s => (u, s)))) ∨ ∃ i : Nat, runF h 0 ss = .inr i ∧ tl = [.str "failed", .int (i : Int)] ∧ μ2 = μ1)) ?_ fun x μ' hx => ?_
  · refine d_heard hd DH bH rfl TB rfl hr (show LamS (C8.fnScope (top 65)) _ from lamS_by (by decide +kernel)) rfl (fun _ _ _ _ _ => rfl) hP1 fun A1 outer1 s1 H1 E1 f1 c1 hr1' => ?_
    refine d_callY c_given hr1' (by decide) rfl (passLm (X := XB P w K mg base NT "_law_turn" (top 65) f (.ref c) A outer s H E)) ?_
    refine d_cons ?_
    refine d_var 1 rfl ?_
    refine d_cons ?_
    refine d_var 5 rfl ?_
    refine d_cons ?_
    refine d_var 10 rfl ?_
    refine d_nil ?_
    refine ⟨p, g, h, ps, u, ss, by omega, dec_runF dg hrun, by omega, by omega, hso, hu.1, rfl, hp1, fun h' hh l hl => ?_, fun i hi => .inl ⟨rfl, rfl, fun l hl => ?_⟩⟩
    · exact ⟨l, [.str "good", stk h'], _, rfl, hl, rfl, .inl ⟨h', hh, rfl, rfl⟩⟩
    · exact ⟨l, [.str "failed", .int (i : Int)], μ1, rfl, hl, rfl, .inr ⟨i, hi, rfl, rfl⟩⟩
  obtain ⟨l, tl, μ2, rfl, hl, rfl, hcase⟩ := hx
  refine s_freeze 7 (q := l) (ds := tl) rfl mset_same ?_
  rw [mdel_mset hl]
  refine s_cons ?_
  refine s_set 9 ?_ sc_turn.nd -- _law_found
  refine d_call c_lrun hr (by decide) rfl ?_
  refine d_cons ?_
  refine d_call c_replay hr (by decide) rfl ?_
  refine d_cons ?_
  refine d_var 2 rfl ?_ -- _law_heap_here
  refine d_cons ?_
  refine d_var 3 rfl ?_ -- _law_log
  refine d_nil ?_
  refine ⟨_, ⟨g, ps, by omega, ok, rfl, rfl⟩, ?_⟩ -- _law_replay
  rw [hrun]
  refine d_cons ?_
  refine d_var 10 rfl ?_ -- _law_steps_here
  refine d_nil ?_
  refine ⟨_, ⟨h, ss, by omega, hso, rfl, rfl⟩, ?_⟩ -- _law_run
  refine s_cons ?_
  refine s_if ?_
  refine d_tval ?_
  refine d_isi rfl B.isinstance rfl B.int bt_int ?_
  refine d_var 9 rfl ?_ -- _law_found
  rcases hcase with ⟨h', hh', rfl, rfl⟩ | ⟨i, hi, rfl, rfl⟩
  · rw [hh']
    refine ⟨_, _, rfl, kt_li, _, rfl, fun h => absurd h (by decide), fun _ => ?_⟩
    refine s_nil ?_
    have hl2 := runF_len hh'
    refine s_one ?_
    refine s_ret ?_
    refine d_tup ?_
    refine d_cons ?_
    refine d_cmp (op_eqD hr.units) rfl ?_
    refine d_var 7 rfl ?_ -- _law_told
    refine d_lst ?_
    refine d_cons ?_
    refine d_str ?_
    refine d_cons ?_
    refine d_call c_lruns hr (by decide) rfl ?_
    refine d_cons ?_
    refine d_var 9 rfl ?_ -- _law_found
    refine d_nil ?_
    refine ⟨_, ⟨h', by omega, rfl, rfl⟩, ?_⟩ -- _law_runs
    refine d_nil ?_
    refine ⟨by simp, .inl ⟨[.str "good", stk h'], rfl, ?_⟩⟩
    refine dr_eqG ⟨_, _, 3, 3, rfl, rfl, gd_good h', gd_good h', by decide, by decide, fun _ => ?_, fun hh => absurd rfl hh⟩
    refine d_cons ?_
    refine d_catL ?_
    refine d_var 3 rfl ?_ -- _law_log
    refine d_lc1 13 [("_law_step", 13)] rfl sc_turn.nd (blkOk_by (N := NT) (sc := C8.fnScope (top 65)) (by decide +kernel)) ?_
    refine i_list ?_
    refine d_var 10 rfl ?_ -- _law_steps_here
    refine ⟨_, .lst _, lcF_lcW ⟨.lst _, _, ss, fun a => .d (stepD a), fun a => some (pairD (u, a)), by rw [List.map_map]; rfl, by omega, fun a ha => ?_, ?_⟩⟩
    · refine ⟨_, rfl, ?_⟩
      refine ⟨rfl, fun h => absurd h (by decide), fun _ => ?_⟩
      intro s H0 C cl fp
      refine d_tup ?_
      refine d_cons ?_
      refine d_var 5 rfl ?_ -- _law_user
      refine d_cons ?_
      refine d_var 13 rfl ?_ -- _law_step
      refine d_nil ?_
      refine ⟨[.str u, stepD a], rfl, by simp, ?_⟩
      exact ⟨rfl, _, rfl, rfl⟩
    rw [List.filterMap_eq_map', show ss.map (fun a => pairD (u, a)) = (ss.map fun s => (u, s)).map pairD by rw [List.map_map]; rfl]
    refine ⟨_, _, .lst _, .lst _, ?_, .inl ⟨(ps ++ ss.map fun s => (u, s)).map pairD, ?_, ?_⟩⟩
    · rw [List.length_map, List.length_map, List.length_map, List.length_map, List.length_map]
      omega
    · rw [← List.map_append, ← List.map_append]
    refine d_nil ?_
    exact ⟨[.bool true, .list ((ps ++ ss.map fun s => (u, s)).map pairD)], rfl, by simp, hk1 _ h' (psOk_app ok hu hso) (by rw [steps_app, runF_append, hrun]; exact runF_place _ hh') (by rw [steps_app, total_app]; omega)⟩
  · rw [hi]
    refine ⟨_, _, rfl, kt_ii, _, rfl, fun _ => ?_, fun h => absurd h (by decide)⟩
    refine s_one ?_
    refine s_ret ?_
    refine d_tup ?_
    refine d_cons ?_
    refine d_cmp (op_eqD hr.units) rfl ?_
    refine d_var 7 rfl ?_ -- _law_told
    refine d_lst ?_
    refine d_cons ?_
    refine d_str ?_
    refine d_cons ?_
    refine d_var 9 rfl ?_ -- _law_found
    refine d_nil ?_
    refine ⟨by simp, .inl ⟨[.str "failed", .int (i : Int)], rfl, ?_⟩⟩
    refine dr_eqG ⟨_, _, 1, 1, rfl, rfl, gd_fail, gd_fail, by decide, by decide, fun _ => ?_, fun hh => absurd rfl hh⟩
    refine d_cons ?_
    refine d_var 3 rfl ?_ -- _law_log
    refine d_nil ?_
    exact ⟨[.bool true, .list (ps.map pairD)], rfl, by simp, hk0⟩
end
end K87
end

section
set_option Elab.async false
set_option linter.all false
set_option maxRecDepth 100000
set_option maxHeartbeats 1100000
set_option autoImplicit false
/-! What the law's own loop keeps. -/
namespace K87
open PySem PySem.Spec PyProof.Rows L2 K87M LamX
structure SS where
  p : Addr
  h : List Int
  ps : List (Str × K87M.Step)
def rvs (L : List SS) : List AV := L.map fun s => rv s.p
def lgD (L : List SS) : List PyData := L.map fun s => .list (s.ps.map pairD)
def lgs (L : List SS) : List AV := L.map fun s => lv (s.ps.map pairD)
def hdD (ps : List (Str × K87M.Step)) : PyData := .tuple [.list (ps.map pairD), .list (ps.map pairD)]
def hld (T : List (List (Str × K87M.Step))) : List AV := T.map fun ps => .d (hdD ps)
theorem lgs_lgD (L : List SS) : lgs L = (lgD L).map .d := by unfold lgs lgD; rw [List.map_map]; rfl
structure LI (C Pt Pl A B D : Addr) (g : List Int) (t l : Nat) (L : List SS) (T : List (List (Str × K87M.Step))) (μ : Mu) : Prop where
  pt : μ Pt = some (.tab qTurn)
  pl : μ Pl = some (.tab qLed)
  a : μ A = some (.lst (rvs L))
  b : μ B = some (.lst (lgs L))
  d : μ D = some (.lst (hld T))
  ab : A ≠ B
  ad : A ≠ D
  bd : B ≠ D
  s : ∀ x ∈ L, μ x.p = some (ses C g x.h x.ps)
  ok : ∀ x ∈ L, PsOk x.ps ∧ runF g 0 (stepsOf x.ps) = .inl x.h ∧ total (stepsOf x.ps) ≤ t
  nd : (L.map (·.p)).Nodup
  hok : ∀ ps ∈ T, PsOk ps
  len : L.length ≤ l ∧ T.length ≤ l ∧ L ≠ []
section
variable {C Pt Pl A B D : Addr} {g : List Int} {t l : Nat} {L L1 L2 : List SS} {x : SS} {T : List (List (Str × K87M.Step))} {μ : Mu}
theorem LI.out {q : Addr} {o : RO} (I : LI C Pt Pl A B D g t l L T μ) (hq : μ q = none) : LI C Pt Pl A B D g t l L T (mset μ q o) := by
  have ne : ∀ {x : Addr} {v : RO}, μ x = some v → mset μ q o x = some v := fun {x v} h => (mset_ne (fun z => by rw [z, hq] at h; cases h)).trans h
  exact ⟨ne I.pt, ne I.pl, ne I.a, ne I.b, ne I.d, I.ab, I.ad, I.bd, fun x hx => ne (I.s x hx), I.ok, I.nd, I.hok, I.len⟩
theorem LI.mono {t' l' : Nat} (I : LI C Pt Pl A B D g t l L T μ) (h1 : t ≤ t') (h2 : l ≤ l') : LI C Pt Pl A B D g t' l' L T μ :=
  ⟨I.pt, I.pl, I.a, I.b, I.d, I.ab, I.ad, I.bd, I.s, fun x hx => ⟨(I.ok x hx).1, (I.ok x hx).2.1, Nat.le_trans (I.ok x hx).2.2 h1⟩, I.nd, I.hok, Nat.le_trans I.len.1 h2, Nat.le_trans I.len.2.1 h2, I.len.2.2⟩
theorem rvs_mid (L1 L2 : List SS) (x : SS) (h : List Int) (ps : List (Str × K87M.Step)) : rvs (L1 ++ ⟨x.p, h, ps⟩ :: L2) = rvs (L1 ++ x :: L2) := by
  unfold rvs; rw [List.map_append, List.map_append, List.map_cons, List.map_cons]
theorem lgs_set (L1 L2 : List SS) (x : SS) (h : List Int) (ps : List (Str × K87M.Step)) : (lgs (L1 ++ x :: L2)).set L1.length (lv (ps.map pairD)) = lgs (L1 ++ ⟨x.p, h, ps⟩ :: L2) := by
  unfold lgs
  rw [List.map_append, List.map_append, List.map_cons, List.map_cons, List.set_append_right _ _ (by rw [List.length_map]; exact Nat.le_refl _), List.length_map, Nat.sub_self]
  rfl
theorem LI.turn {h' : List Int} {ps' : List (Str × K87M.Step)} {t' : Nat} (I : LI C Pt Pl A B D g t l (L1 ++ x :: L2) T μ) (ok : PsOk ps') (hr : runF g 0 (stepsOf ps') = .inl h') (ht : total (stepsOf ps') ≤ t') (htt : t ≤ t') :
    LI C Pt Pl A B D g t' l (L1 ++ ⟨x.p, h', ps'⟩ :: L2) T (mset (mset μ x.p (ses C g h' ps')) B (.lst (lgs (L1 ++ ⟨x.p, h', ps'⟩ :: L2)))) := by
  have hx := I.s x (by simp)
  have hnd := I.nd
  rw [List.map_append, List.map_cons] at hnd
  have nB : ∀ {y : Addr} {v : RO}, μ y = some v → y ≠ B → y ≠ x.p → mset (mset μ x.p (ses C g h' ps')) B (.lst (lgs (L1 ++ ⟨x.p, h', ps'⟩ :: L2))) y = some v := fun h h1 h2 => (mset_ne h1).trans ((mset_ne h2).trans h)
  have tx : ∀ {y : Addr} {v : RO}, μ y = some v → (∀ C fs, v ≠ .ins C fs) → y ≠ x.p := fun h1 h2 z => by rw [z, hx] at h1; exact h2 _ _ (Option.some.inj h1).symm
  have tB : ∀ {y : Addr} {v : RO}, μ y = some v → (∀ xs, v ≠ .lst xs) → y ≠ B := fun h1 h2 z => by rw [z, I.b] at h1; exact h2 _ (Option.some.inj h1).symm
  have hn1 : ∀ y, y ∈ L1 ∨ y ∈ L2 → y.p ≠ x.p := fun y hy z => by
    rcases hy with hy | hy
    · have := (List.nodup_append.mp hnd).2.2 y.p (List.mem_map_of_mem hy) x.p (List.mem_cons_self ..)
      exact this z
    · have := (List.nodup_cons.mp (List.nodup_append.mp hnd).2.1).1
      exact this (by rw [← z]; exact List.mem_map_of_mem hy)
  refine ⟨nB I.pt (tB I.pt fun _ z => nomatch z) (tx I.pt fun _ _ z => nomatch z), nB I.pl (tB I.pl fun _ z => nomatch z) (tx I.pl fun _ _ z => nomatch z), ?_, mset_same, nB I.d (Ne.symm I.bd) (tx I.d fun _ _ z => nomatch z), I.ab, I.ad, I.bd, fun y hy => ?_, fun y hy => ?_, ?_, I.hok, ?_, I.len.2.1, by simp⟩
  · rw [rvs_mid]
    exact nB I.a I.ab (tx I.a fun _ _ z => nomatch z)
  · rcases List.mem_append.mp hy with q | q
    · have h0 := I.s y (List.mem_append_left _ q)
      exact nB h0 (tB h0 fun _ z => nomatch z) (hn1 y (.inl q))
    · rcases (List.mem_cons.mp q) with rfl | q
      · exact (mset_ne (tB hx fun _ z => nomatch z)).trans mset_same
      · have h0 := I.s y (List.mem_append_right _ (List.mem_cons_of_mem _ q))
        exact nB h0 (tB h0 fun _ z => nomatch z) (hn1 y (.inr q))
  · have old : ∀ y ∈ L1 ++ x :: L2, PsOk y.ps ∧ runF g 0 (stepsOf y.ps) = .inl y.h ∧ total (stepsOf y.ps) ≤ t' := fun y hy => ⟨(I.ok y hy).1, (I.ok y hy).2.1, Nat.le_trans (I.ok y hy).2.2 htt⟩
    rcases List.mem_append.mp hy with q | q
    · exact old y (List.mem_append_left _ q)
    · rcases (List.mem_cons.mp q) with rfl | q
      · exact ⟨ok, hr, ht⟩
      · exact old y (List.mem_append_right _ (List.mem_cons_of_mem _ q))
  · rw [List.map_append, List.map_cons]; exact hnd
  · have := I.len.1
    rw [List.length_append, List.length_cons] at this ⊢
    exact this
theorem LI.hold {ps : List (Str × K87M.Step)} (I : LI C Pt Pl A B D g t l L T μ) (ok : PsOk ps) : LI C Pt Pl A B D g t (l + 1) L (T ++ [ps]) (mset μ D (.lst (hld T ++ [.d (hdD ps)]))) := by
  have tD : ∀ {y : Addr} {v : RO}, μ y = some v → (∀ xs, v ≠ .lst xs) → mset μ D (.lst (hld T ++ [.d (hdD ps)])) y = some v := fun h1 h2 => (mset_ne fun z => by rw [z, I.d] at h1; exact h2 _ (Option.some.inj h1).symm).trans h1
  refine ⟨tD I.pt (fun _ z => nomatch z), tD I.pl (fun _ z => nomatch z), (mset_ne I.ad).trans I.a, (mset_ne I.bd).trans I.b, ?_, I.ab, I.ad, I.bd, fun y hy => tD (I.s y hy) (fun _ z => nomatch z), I.ok, I.nd, fun y hy => ?_, Nat.le_succ_of_le I.len.1, ?_, I.len.2.2⟩
  · rw [mset_same]; unfold hld; rw [List.map_append]; rfl
  · rcases List.mem_append.mp hy with q | q
    · exact I.hok y q
    · rw [List.mem_singleton.mp q]; exact ok
  · rw [List.length_append]; exact Nat.succ_le_succ I.len.2.1
theorem LI.copy {q : Addr} (I : LI C Pt Pl A B D g t l L T μ) (hx : x ∈ L) (hq : μ q = none) :
    LI C Pt Pl A B D g t (l + 1) (L ++ [⟨q, x.h, x.ps⟩]) T (mset (mset (mset μ q (ses C g x.h x.ps)) A (.lst (rvs L ++ [rv q]))) B (.lst (lgs L ++ [lv (x.ps.map pairD)]))) := by
  have nq : ∀ {y : Addr} {v : RO}, μ y = some v → y ≠ q := fun h z => by rw [z, hq] at h; cases h
  have go : ∀ {y : Addr} {v : RO}, μ y = some v → y ≠ A → y ≠ B → mset (mset (mset μ q (ses C g x.h x.ps)) A (.lst (rvs L ++ [rv q]))) B (.lst (lgs L ++ [lv (x.ps.map pairD)])) y = some v := fun h h1 h2 => (mset_ne h2).trans ((mset_ne h1).trans ((mset_ne (nq h)).trans h))
  have tA : ∀ {y : Addr} {v : RO}, μ y = some v → (∀ xs, v ≠ .lst xs) → y ≠ A := fun h1 h2 z => by rw [z, I.a] at h1; exact h2 _ (Option.some.inj h1).symm
  have tB : ∀ {y : Addr} {v : RO}, μ y = some v → (∀ xs, v ≠ .lst xs) → y ≠ B := fun h1 h2 z => by rw [z, I.b] at h1; exact h2 _ (Option.some.inj h1).symm
  refine ⟨go I.pt (tA I.pt fun _ z => nomatch z) (tB I.pt fun _ z => nomatch z), go I.pl (tA I.pl fun _ z => nomatch z) (tB I.pl fun _ z => nomatch z), ?_, ?_, go I.d (Ne.symm I.ad) (Ne.symm I.bd), I.ab, I.ad, I.bd, fun y hy => ?_, fun y hy => ?_, ?_, I.hok, ?_, Nat.le_succ_of_le I.len.2.1, by simp⟩
  · rw [mset_ne I.ab, mset_same]; unfold rvs; rw [List.map_append]; rfl
  · rw [mset_same]; unfold lgs; rw [List.map_append]; rfl
  · rcases List.mem_append.mp hy with z | z
    · have h0 := I.s y z
      exact go h0 (tA h0 fun _ z => nomatch z) (tB h0 fun _ z => nomatch z)
    · rw [(List.mem_singleton.mp z)]
      exact (mset_ne fun e => nq I.b e.symm).trans ((mset_ne fun e => nq I.a e.symm).trans mset_same)
  · rcases List.mem_append.mp hy with z | z
    · exact I.ok y z
    · rw [(List.mem_singleton.mp z)]
      exact I.ok x hx
  · rw [List.map_append]
    refine List.nodup_append.mpr ⟨I.nd, by simp, fun a ha b hb e => ?_⟩
    obtain ⟨y, hy, rfl⟩ := List.mem_map.mp ha
    (simp only [List.map_cons, List.map_nil, List.mem_singleton] at hb); exact nq (I.s y hy) (e.trans hb)
  · rw [List.length_append]; exact Nat.succ_le_succ I.len.1
theorem split_at {α : Type} {L : List α} {r : Int} (h0 : 0 ≤ r) (h1 : r < L.length) : ∃ (L1 : List α) (x : α) (L2 : List α), L = L1 ++ x :: L2 ∧ r = (L1.length : Int) := by
  have hl : r.toNat < L.length := by omega
  refine ⟨L.take r.toNat, L[r.toNat], L.drop (r.toNat + 1), ?_, ?_⟩
  · rw [List.getElem_cons_drop, List.take_append_drop]
  · rw [List.length_take]; omega
theorem atI_mid {α : Type} (L1 L2 : List α) (x : α) (f : α → AV) : atI ((L1 ++ x :: L2).map f) (L1.length : Int) = some (f x) := by
  refine atI_nat ?_
  rw [List.getElem?_map, List.getElem?_append_right (Nat.le_refl _), Nat.sub_self]
  rfl
theorem ixN_mid {α : Type} (L1 L2 : List α) (x : α) (f : α → AV) : ixN ((L1 ++ x :: L2).map f).length (L1.length : Int) = some L1.length := by
  unfold ixN
  rw [if_pos (Int.natCast_nonneg _), if_pos (by rw [List.length_map, List.length_append, List.length_cons]; omega)]
  rfl
theorem gd_lgD {L : List SS} (h : ∀ x ∈ L, PsOk x.ps) : Gd 4 (.list (lgD L)) := .lst _ _ fun y hy => by
  obtain ⟨x, hx, e⟩ := List.mem_map.mp hy
  subst e; exact gd_pairsL 0 (h x hx)
theorem enAll_rvs (L : List SS) : enAll (rvs L) = L.zipIdx.map fun x => AV.e (x.2 : Int) (.ref x.1.p) := by
  unfold enAll rvs
  apply List.ext_getElem?
  intro i
  rw [List.getElem?_mapIdx, List.getElem?_map, List.getElem?_map, List.getElem?_zipIdx]
  cases L[i]? with
  | none => rfl
  | some s => simp [enA]
theorem zip_split {L : List SS} {d r : List (SS × Nat)} {a : SS × Nat} (e : L.zipIdx = d ++ a :: r) : a.2 = d.length ∧ L = d.map (·.1) ++ a.1 :: r.map (·.1) := by
  constructor
  · have h : L.zipIdx[d.length]? = some a := by rw [e, List.getElem?_append_right (Nat.le_refl _), Nat.sub_self]; rfl
    rw [List.getElem?_zipIdx] at h
    cases q : L[d.length]? with
    | none => rw [q] at h; cases h
    | some s => rw [q] at h; cases h; simp
  · have h := congrArg (List.map (·.1)) e
    rw [List.map_append, List.map_cons, List.zipIdx_map_fst] at h
    exact h
theorem applied_ok {g h : List Int} {ss : List K87M.Step} (dg : Dec g) (hr : runF g 0 ss = .inl h) : tk g (effs ss).drops (U (effs ss).cuts) ≤ g.length ∧ g.take (g.length - tk g (effs ss).drops (U (effs ss).cuts)) ++ (effs ss).new = h := by
  have s := says_effs dg hr
  rw [tk_U]
  exact ⟨s.le, s.eq.symm⟩
end
end K87
end

section
set_option Elab.async false
set_option linter.all false
set_option maxRecDepth 100000
set_option maxHeartbeats 2100000
set_option autoImplicit false
/-! The law's own def. -/
namespace K87
open PySem PySem.Spec PyProof.Rows L2 K87M LamX
section
variable {P : Program} {w : World} {K : PySem.W.Frag} {mg : Str → Option Value} {base : Heap} {f Pt Pl : Addr} {fd : FuncData} {C SFa NUa : Addr}
theorem range1 (n : Nat) : rangeA 1 n = (List.range n).map fun i => iv ((1 + i : Nat) : Int) := by
  unfold rangeA
  (refine List.map_congr_left fun i _ => ?_); rw [show ((1 + i : Nat) : Int) = 1 + (i : Int) by omega]
def fsLaw (Pt Pl : Addr) : FS := fun as μ k _ => ∃ ns : List Int, ns.length ≤ sizeLine ∧ ns.length < 1000000 ∧ as = [lv (ns.map .int)] ∧ μ Pt = some (.tab qTurn) ∧ μ Pl = some (.tab qLed) ∧ ∀ μ', k (bv true) μ'
abbrev NW : List Str := ["_law_script", "_law_pool_here", "_law_numbers_here", "_law_heap_here", "_law_sessions", "_law_logs", "_law_held", "_law_k", "_law_at", "_law_is_right", "_law_told", "_law_session", "_law_pair"]
theorem sc_law : FnScope NW ["_law_script"] (C8.fnScope (top 68)) := C8.fnScope_by (by decide +kernel)
theorem fn_law (D : C8.Fun K "law" "law" (top 68) f fd) (B : Bl mg) (SP : SesP P w K mg base C SFa NUa) (M : C8.Mak P w K mg base 6 "Session" C (spF K (fsInit C)) []) (hmS : mg "Session" = some (.ref C))
    {mc : Value} {qr fr : Addr} (CR : ClX.CRead K C mc) (CM : ClX.CMet K C mc "replayed" qr fr) (FR : FnR P w K mg base CX0 10 fr (spF K (fsRepl C)))
    (c_pool : C8.Cal P w K mg base 1 "_law_pool" (spF K fsPool) []) (c_take : C8.Cal P w K mg base 1 "_law_take" (spF K fsTake) []) (c_numbers : C8.Cal P w K mg base 2 "_law_numbers" (spF K fsNumbers) []) (c_heap : C8.Cal P w K mg base 2 "_law_heap" (spF K fsHeap) [])
    (c_lruns : C8.Cal P w K mg base 1 "_law_runs" (spF K fsLRuns) []) (c_turn : C8.Cal P w K mg base 13 "_law_turn" (spF K (fsTurn C Pt)) []) (c_stands : C8.Cal P w K mg base 7 "_law_stands" (spF K (fsStands C)) []) (c_led : C8.Cal P w K mg base 11 "_law_led_back" (spF K (fsLed C Pl)) [])
    (c_applied : C8.Cal P w K mg base 8 "applied" (spF K fsApplied) []) : FnOk P w K mg base CX0 14 f fd ["_law_script"] (spF K (fsLaw Pt Pl)) := by
  obtain ⟨qs, fs, fds, hps, Fs, bs⟩ := SP.stk
  obtain ⟨fe, fde, he1, he2, Fe, be⟩ := SP.eq
  refine fnD D sc_law (fun as μ k F ⟨_, _, _, h, _⟩ => by rw [h]; rfl) fun cdv A0 outer s H E hr as μ k F ⟨ns, hnl, hnl2, has, hPt, hPl, hk⟩ => ?_
  subst has
  refine s_cons ?_
  refine s_set 1 ?_ sc_law.nd -- _law_pool_here
  refine d_call c_pool hr (by decide) rfl ?_
  refine d_cons ?_
  refine d_var 0 rfl ?_ -- _law_script
  refine d_cons ?_
  refine d_int ?_
  refine d_nil ?_
  refine ⟨ns, 0, hnl, by decide, rfl, fun q a b hq => ?_⟩ -- _law_pool
  have nq : ∀ {x : Addr} {o : RO}, μ x = some o → x ≠ q := fun h z => by rw [z, hq] at h; cases h
  refine s_cons ?_
  refine s_set 2 ?_ sc_law.nd -- _law_numbers_here
  refine d_call c_numbers hr (by decide) rfl ?_
  refine d_cons ?_
  refine d_var 1 rfl ?_ -- _law_pool_here
  refine d_cons ?_
  refine d_add ?_
  refine d_int ?_
  refine d_call c_take hr (by decide) rfl ?_
  refine d_cons ?_
  refine d_var 1 rfl ?_ -- _law_pool_here
  refine d_cons ?_
  refine d_int ?_
  refine d_nil ?_
  refine ⟨q, a, b, 5, by decide, by decide, rfl, mset_same, fun r1 a1 b1 h0 h1 => ?_⟩ -- _law_take
  rw [mset_mset]
  (obtain ⟨m, rfl⟩ := Int.eq_ofNat_of_zero_le h0); refine ⟨_, _, rfl, rfl, ?_⟩
  refine d_nil ?_
  refine ⟨q, a1, b1, 1 + m, by omega, by rw [show ((1 : Int) + (m : Int)) = ((1 + m : Nat) : Int) by omega], mset_same, fun nh a2 b2 hnh => ?_⟩ -- _law_numbers
  rw [mset_mset]
  refine s_cons ?_
  refine s_set 3 ?_ sc_law.nd -- _law_heap_here
  refine d_call c_heap hr (by decide) rfl ?_
  refine d_cons ?_
  refine d_var 1 rfl ?_ -- _law_pool_here
  refine d_cons ?_
  refine d_var 2 rfl ?_ -- _law_numbers_here
  refine d_cons ?_
  refine d_int ?_
  refine d_nil ?_
  refine ⟨q, a2, b2, nh, 6, by decide, by omega, rfl, mset_same, fun g a3 b3 dg hgl => ?_⟩ -- _law_heap
  rw [mset_mset]
  have hPt1 : mset μ q (pl a3 b3) Pt = some (.tab qTurn) := (mset_ne (nq hPt)).trans hPt
  have hPl1 : mset μ q (pl a3 b3) Pl = some (.tab qLed) := (mset_ne (nq hPl)).trans hPl
  generalize mset μ q (pl a3 b3) = μ1 at *
  refine s_cons ?_
  refine s_par3 4 5 6 rfl sc_law.nd ?_ (by rfl)
  refine d_cons ?_
  refine d_lst ?_
  refine d_cons ?_
  refine d_make M hr (by decide) rfl ?_
  refine d_cons ?_
  refine d_call c_lruns hr (by decide) rfl ?_
  refine d_cons ?_
  refine d_var 3 rfl ?_ -- _law_heap_here
  refine d_nil ?_
  refine ⟨_, ⟨g, by omega, rfl, rfl⟩, ?_⟩ -- _law_runs
  refine d_nil ?_
  intro p0 hp0
  refine ⟨p0, g, dg, by omega, rfl, mset_same, rfl, ?_⟩
  rw [mset_mset]
  refine d_nil ?_
  refine ⟨by simp, .inr fun A hA => ?_⟩
  obtain ⟨hA1, hA2⟩ := new_ne hA
  refine d_cons ?_
  refine d_lst ?_
  refine d_cons ?_
  refine d_lst ?_
  refine d_nil ?_
  refine ⟨by simp, .inl ⟨[], rfl, ?_⟩⟩
  refine d_nil ?_
  refine ⟨by simp, .inr fun Bq hB => ?_⟩
  obtain ⟨hB1, hB2⟩ := new_ne hB
  obtain ⟨hB3, hB4⟩ := new_ne hB2
  refine d_cons ?_
  refine d_lst ?_
  refine d_nil ?_
  refine ⟨by simp, .inr fun Dq hD => ?_⟩
  obtain ⟨hD1, hD2⟩ := new_ne hD
  obtain ⟨hD3, hD4⟩ := new_ne hD2
  obtain ⟨hD5, hD6⟩ := new_ne hD4
  refine d_nil ?_
  refine ⟨_, _, _, rfl, ?_⟩
  have I0 : LI C Pt Pl A Bq Dq g (18 * 0) (1 + 2 * 0) [⟨p0, g, []⟩] [] (mset (mset (mset (mset μ1 p0 (ses C g g [])) A (.lst [rv p0])) Bq (.lst [lv []])) Dq (.lst [])) := by
    have go : ∀ {x : Addr} {o : RO}, μ1 x = some o → mset (mset (mset (mset μ1 p0 (ses C g g [])) A (.lst [rv p0])) Bq (.lst [lv []])) Dq (.lst []) x = some o := fun {x o} h => by
      have ne : ∀ {y : Addr}, μ1 y = none → x ≠ y := fun e z => by rw [z, e] at h; cases h
      rw [mset_ne (ne hD6), mset_ne (ne hB4), mset_ne (ne hA2), mset_ne (ne hp0)]
      exact h
    refine ⟨go hPt1, go hPl1, ?_, ?_, mset_same, Ne.symm hB1, Ne.symm hD3, Ne.symm hD1, fun x hx => ?_, fun x hx => ?_, by simp, fun ps hps => (nomatch hps), by simp, by simp, by simp⟩
    · rw [mset_ne (Ne.symm hD3), mset_ne (Ne.symm hB1)]; exact mset_same
    · rw [mset_ne (Ne.symm hD1)]; exact mset_same
    · rw [List.mem_singleton.mp hx]
      rw [mset_ne (Ne.symm hD5), mset_ne (Ne.symm hB3), mset_ne (Ne.symm hA1)]; exact mset_same
    · rw [List.mem_singleton.mp hx]
      exact ⟨fun y hy => (nomatch hy), rfl, Nat.le_refl _⟩
  generalize mset (mset (mset (mset μ1 p0 (ses C g g [])) A (.lst [rv p0])) Bq (.lst [lv []])) Dq (.lst []) = μ2 at *
  refine s_cons ?_
  refine s_forL PassesOwn.never rfl ?_
  refine i_range2 rfl B.range ?_
  refine d_cons ?_
  refine d_int ?_
  refine d_cons ?_
  refine d_max2 rfl rfl B.max ?_
  refine d_int ?_
  refine d_min2 rfl rfl B.min ?_
  refine d_len rfl B.len ?_
  refine d_var 0 rfl ?_ -- _law_script
  refine ⟨_, .lst _, ?_⟩
  refine d_int ?_
  refine ⟨_, _, rfl, rfl, ?_⟩
  refine ⟨_, _, rfl, rfl, ?_⟩
  refine d_nil ?_
  rw [List.length_map, List.length_map]
  generalize hnn : (if (if (21 : Int) < (ns.length : Int) then (21 : Int) else (ns.length : Int)) > (3 : Int) then (if (21 : Int) < (ns.length : Int) then (21 : Int) else (ns.length : Int)) else (3 : Int)) = nn
  have hn21 : 3 ≤ nn ∧ nn ≤ 21 := by
    rw [← hnn]
    split <;> split at * <;> omega
  refine ⟨1, nn, rfl, by omega, ?_⟩
  refine ⟨_, List.range (nn - 1).toNat, fun i => iv ((1 + i : Nat) : Int), fun d ρ' μ' => ∃ (L : List SS) (T : List (List (Str × K87M.Step))) (x1 : AV) (x7 x8 x9 x10 x11 x12 : Option AV), LI C Pt Pl A Bq Dq g (18 * d.length) (1 + 2 * d.length) L T μ' ∧
    ρ' = [some (lv (ns.map .int)), some x1, some (lv (nh.map .int)), some (.d (listL g)), some (rv A), some (rv Bq), some (rv Dq), x7, x8, x9, x10, x11, x12], range1 _, ⟨_, _, _, none, none, none, none, none, none, I0, rfl⟩, fun d r ρ μ e h => trivial, fun d i r ρ μ' e hv => ?_, fun ρ μ' hv => ?_⟩
  · obtain ⟨L, T, x1, x7, x8, x9, x10, x11, x12, I, rfl⟩ := hv
    have hdl : d.length < 20 := by
      have := congrArg List.length e
      rw [List.length_range, List.length_append, List.length_cons] at this
      omega
    have hi : i < 20 := by
      have : i ∈ List.range (nn - 1).toNat := by rw [e]; simp
      have := List.mem_range.mp this
      omega
    refine g_name 7 ?_ sc_law.nd
    refine s_cons ?_
    refine s_set 1 ?_ sc_law.nd -- _law_pool_here
    refine d_call c_pool hr (by decide) rfl ?_
    refine d_cons ?_
    refine d_var 0 rfl ?_ -- _law_script
    refine d_cons ?_
    refine d_var 7 rfl ?_ -- _law_k
    refine d_nil ?_
    refine ⟨ns, 1 + i, hnl, by omega, rfl, fun q a b hq => ?_⟩ -- _law_pool
    refine s_cons ?_
    refine s_set 8 ?_ sc_law.nd -- _law_at
    refine d_call c_take hr (by decide) rfl ?_
    refine d_cons ?_
    refine d_var 1 rfl ?_ -- _law_pool_here
    refine d_cons ?_
    refine d_len rfl B.len ?_
    refine d_var 5 rfl ?_ -- _law_logs
    refine ⟨_, .own Bq _ (I.out hq).b, ?_⟩
    refine d_nil ?_
    have hLl : (lgs L).length = L.length := by unfold lgs; exact List.length_map _
    have hL0 : 0 < L.length := List.length_pos_iff.mpr I.len.2.2
    have hLb := I.len.1
    have hTb := I.len.2.1
    refine ⟨q, a, b, _, by rw [hLl]; omega, by rw [hLl]; omega, rfl, mset_same, fun r1 a1 b1 h0 h1 => ?_⟩ -- _law_take
    rw [mset_mset]
    rw [hLl] at h1
    obtain ⟨L1, x, L2, rfl, rfl⟩ := split_at h0 h1
    have I1 := I.out (o := pl a1 b1) hq
    have hq1 : mset μ' q (pl a1 b1) q = some (pl a1 b1) := mset_same
    have hx := I1.s x (by simp)
    obtain ⟨okx, runx, totx⟩ := I1.ok x (by simp)
    have hlenx := runF_len runx
    refine s_cons ?_
    refine s_asg ?_
    refine d_call c_turn hr (by decide) rfl ?_
    refine d_cons ?_
    refine d_var 1 rfl ?_ -- _law_pool_here
    refine d_cons ?_
    refine d_ix ?_
    refine d_var 4 rfl ?_ -- _law_sessions
    refine d_var 8 rfl ?_ -- _law_at
    refine ⟨_, _, _, .own A _ I1.a, rfl, atI_mid _ _ _ _, ?_⟩
    refine d_cons ?_
    refine d_var 3 rfl ?_ -- _law_heap_here
    refine d_cons ?_
    refine d_ix ?_
    refine d_var 5 rfl ?_ -- _law_logs
    refine d_var 8 rfl ?_ -- _law_at
    refine ⟨_, _, _, .own Bq _ I1.b, rfl, atI_mid _ _ _ _, ?_⟩
    refine d_cons ?_
    refine d_var 2 rfl ?_ -- _law_numbers_here
    refine d_nil ?_
    refine ⟨q, x.p, a1, b1, g, x.h, x.ps, nh, dg, by omega, okx, runx, by omega, rfl, hq1, hx, I1.pt, fun ps' h' a2 b2 ok' hrun' htot' => ?_⟩ -- _law_turn
    rw [mset_mset]
    have I2 := I.out (o := pl a2 b2) hq
    have I3 := I2.turn (x := x) (h' := h') (ps' := ps') (t' := 18 * (d.length + 1)) ok' hrun' (by omega) (by omega)
    refine g_tup rfl ?_
    refine ⟨[.bool true, .list (ps'.map pairD)], rfl, rfl, ?_⟩
    refine gs_cons ?_
    refine g_name 9 ?_ sc_law.nd
    refine gs_cons ?_
    refine g_subL ?_
    refine d_var 5 rfl ?_
    refine d_var 8 rfl ?_
    have hBx : mset (mset μ' q (pl a2 b2)) x.p (ses C g h' ps') Bq = some (.lst (lgs (L1 ++ x :: L2))) := (mset_ne fun z => by have h1 := I2.b; rw [z, I2.s x (by simp)] at h1; cases h1).trans I2.b
    refine ⟨Bq, _, _, _, rfl, rfl, hBx, ixN_mid _ _ _ _, ?_⟩
    refine gs_nil ?_
    rw [lgs_set L1 L2 x h' ps']
    generalize mset (mset (mset μ' q (pl a2 b2)) x.p (ses C g h' ps')) Bq (.lst (lgs (L1 ++ ⟨x.p, h', ps'⟩ :: L2))) = μ3 at *
    have hx3 : μ3 x.p = some (ses C g h' ps') := I3.s ⟨x.p, h', ps'⟩ (by simp)
    have eA := rvs_mid L1 L2 x h' ps'
    have atA : atI (rvs (L1 ++ ⟨x.p, h', ps'⟩ :: L2)) (L1.length : Int) = some (rv x.p) := atI_mid L1 L2 ⟨x.p, h', ps'⟩ _
    have atB : atI (lgs (L1 ++ ⟨x.p, h', ps'⟩ :: L2)) (L1.length : Int) = some (lv (ps'.map pairD)) := atI_mid L1 L2 ⟨x.p, h', ps'⟩ _
    have hpsl : ps'.length ≤ total (stepsOf ps') := by
      have := len_total (psOk_steps ok')
      rwa [List.length_map] at this
    refine s_cons ?_
    refine s_if ?_
    refine d_tW ?_
    refine d_wor ?_
    refine d_tnot ?_
    refine d_tval ?_
    refine d_var 9 rfl ?_ -- _law_is_right
    refine ⟨_, rfl, fun hh => absurd hh (by decide), fun _ => ?_⟩
    refine d_wor1 ?_
    refine d_tnot ?_
    refine d_tval ?_
    refine d_call c_stands hr (by decide) rfl ?_
    refine d_cons ?_
    refine d_ix ?_
    refine d_var 4 rfl ?_ -- _law_sessions
    refine d_var 8 rfl ?_ -- _law_at
    refine ⟨_, _, _, .own A _ I3.a, rfl, atA, ?_⟩
    refine d_cons ?_
    refine d_var 3 rfl ?_ -- _law_heap_here
    refine d_cons ?_
    refine d_ix ?_
    refine d_var 5 rfl ?_ -- _law_logs
    refine d_var 8 rfl ?_ -- _law_at
    refine ⟨_, _, _, .own Bq _ I3.b, rfl, atB, ?_⟩
    refine d_nil ?_
    refine ⟨x.p, g, h', ps', dg, by omega, ok', hrun', rfl, hx3, ?_⟩ -- _law_stands
    refine ⟨_, rfl, fun hh => absurd hh (by decide), fun _ => ?_⟩
    refine s_nil ?_
    refine s_cons ?_
    refine s_if ?_
    refine d_tcmp (op_neD hr.units) rfl ?_
    refine d_call c_applied hr (by decide) rfl ?_
    refine d_cons ?_
    refine d_meth0 SP.eff hr (by decide) ?_
    refine d_ix ?_
    refine d_var 4 rfl ?_ -- _law_sessions
    refine d_var 8 rfl ?_ -- _law_at
    refine ⟨_, _, _, .own A _ I3.a, rfl, atA, ?_⟩
    refine ⟨x.p, _, rfl, hx3, rfl, ⟨x.p, g, h', ps', ok', by omega, by omega, rfl, hx3, ?_⟩⟩
    refine d_cons ?_
    refine d_call c_lruns hr (by decide) rfl ?_
    refine d_cons ?_
    refine d_var 3 rfl ?_ -- _law_heap_here
    refine d_nil ?_
    refine ⟨_, ⟨g, by omega, rfl, rfl⟩, ?_⟩ -- _law_runs
    refine d_nil ?_
    have hsl : (stepsOf ps').length < 50000 := by rw [List.length_map]; omega
    have eok := effOk hsl (by omega) (psOk_steps ok')
    have eln := (effs_len (stepsOf ps'))
    obtain ⟨ap1, ap2⟩ := applied_ok dg hrun'
    refine ⟨_, ⟨_, _, _, g, eok, dg, by omega, ap1, rfl, rfl⟩, ?_⟩ -- applied
    rw [ap2]
    refine d_prop SP.S.cls hps Fs hr (by decide) bs ?_
    refine d_ix ?_
    refine d_var 4 rfl ?_ -- _law_sessions
    refine d_var 8 rfl ?_ -- _law_at
    refine ⟨_, _, _, .own A _ I3.a, rfl, atA, ?_⟩
    refine ⟨x.p, _, rfl, hx3, ⟨x.p, g, h', ps', rfl, hx3, ?_⟩⟩
    refine dr_neG ⟨_, _, 2, 2, rfl, rfl, gd_rns 0 _, gd_rns 0 _, by decide, by decide, fun _ => ⟨_, rfl, fun hh => absurd hh (by decide), fun _ => ?_⟩, fun hh => absurd rfl hh⟩
    refine s_nil ?_
    refine s_cons ?_
    refine s_set 10 ?_ sc_law.nd -- _law_told
    refine d_frz ?_
    refine d_meth0 SP.log hr (by decide) ?_
    refine d_ix ?_
    refine d_var 4 rfl ?_ -- _law_sessions
    refine d_var 8 rfl ?_ -- _law_at
    refine ⟨_, _, _, .own A _ I3.a, rfl, atA, ?_⟩
    refine ⟨x.p, _, rfl, hx3, rfl, ⟨x.p, g, h', ps', rfl, hx3, by omega, fun q2 hq2 => ⟨q2, _, rfl, mset_same, ?_⟩⟩⟩
    rw [mdel_mset hq2]
    refine s_cons ?_
    refine s_expr ?_
    refine d_append ?_
    refine d_var 6 rfl ?_ -- _law_held
    refine ⟨Dq, _, rfl, I3.d, ?_⟩
    refine d_tup ?_
    refine d_cons ?_
    refine d_var 10 rfl ?_ -- _law_told
    refine d_cons ?_
    refine d_list rfl B.list ?_
    refine d_var 10 rfl ?_ -- _law_told
    refine ⟨_, .lst _, .inl ⟨_, rfl, ?_⟩⟩
    refine d_nil ?_
    refine ⟨[.list (ps'.map pairD), .list (ps'.map pairD)], rfl, by simp, ?_⟩
    refine ⟨_, I3.d, by unfold hld; rw [List.length_map]; omega, ?_⟩
    have I4 := I3.hold ok'
    rw [show AV.d (hdD ps') = tv [.list (ps'.map pairD), .list (ps'.map pairD)] from rfl] at I4
    generalize mset μ3 Dq (.lst (hld T ++ [tv [.list (ps'.map pairD), .list (ps'.map pairD)]])) = μ4 at *
    have hx4 : μ4 x.p = some (ses C g h' ps') := I4.s ⟨x.p, h', ps'⟩ (by simp)
    have hLb4 := I4.len.1
    have hTb4 := I4.len.2.1
    generalize T ++ [ps'] = T4 at *
    generalize hL4 : L1 ++ ⟨x.p, h', ps'⟩ :: L2 = L4 at *
    have hmem : (⟨x.p, h', ps'⟩ : SS) ∈ L4 := by rw [← hL4]; simp
    refine s_cons ?_
    refine s_if ?_
    refine d_tW ?_
    refine d_wor ?_
    refine d_tcmp (op_neD hr.units) rfl ?_
    refine d_lc1 11 [("_law_session", 11)] rfl sc_law.nd (blkOk_by (N := NW) (sc := C8.fnScope (top 68)) (by decide +kernel)) ?_
    refine i_list ?_
    refine d_var 4 rfl ?_ -- _law_sessions
    refine ⟨_, .own A _ I4.a, lcF_lcW ⟨.own A _ I4.a, _, L4, fun y => rv y.p, fun y => some (PyData.list (y.ps.map pairD)), rfl, by omega, fun y hy => ?_, ?_⟩⟩
    · have hy4 := I4.s y hy
      have hyl : y.ps.length ≤ total (stepsOf y.ps) := by
        have := len_total (psOk_steps (I4.ok y hy).1)
        rwa [List.length_map] at this
      have hyt := (I4.ok y hy).2.2
      refine ⟨_, rfl, ?_⟩
      refine ⟨rfl, fun h => absurd h (by decide), fun _ => ?_⟩
      intro s H0 C' cl fp
      refine d_frz ?_
      refine d_meth0 SP.log hr (by decide) ?_
      refine d_var 11 rfl ?_ -- _law_session
      refine ⟨y.p, _, rfl, hy4, rfl, ⟨y.p, g, y.h, y.ps, rfl, hy4, by omega, fun q2 hq2 => ⟨q2, _, rfl, mset_same, ?_⟩⟩⟩
      rw [mdel_mset hq2]
      exact ⟨rfl, _, rfl, rfl⟩
    rw [List.filterMap_eq_map']
    refine d_var 5 rfl ?_ -- _law_logs
    have okL : ∀ x ∈ L4, PsOk x.ps := fun y hy => (I4.ok y hy).1
    refine dr_neO ⟨_, _, 4, 4, .d (.list (lgD L4)), .own Bq (lgD L4) (by rw [← lgs_lgD]; exact I4.b), gd_lgD okL, gd_lgD okL, by decide, by decide, fun _ => ⟨_, rfl, fun hh => absurd hh (by decide), fun _ => ?_⟩, fun hh => absurd rfl hh⟩
    refine d_wor1 ?_
    refine d_tcmp (op_neD hr.units) rfl ?_
    refine d_lc1 12 [("_law_pair", 12)] rfl sc_law.nd (blkOk_by (N := NW) (sc := C8.fnScope (top 68)) (by decide +kernel)) ?_
    refine i_list ?_
    refine d_var 6 rfl ?_ -- _law_held
    refine ⟨_, .own Dq _ I4.d, lcF_lcW ⟨.own Dq _ I4.d, _, T4, fun y => .d (hdD y), fun _ => none, rfl, by omega, fun y hy => ?_, ?_⟩⟩
    · have hy4 := I4.hok y hy
      refine ⟨_, rfl, ?_⟩
      intro s H0 C' cl fp
      refine d_tcmp (op_neD hr.units) rfl ?_
      refine d_ix ?_
      refine d_var 12 rfl ?_ -- _law_pair
      refine d_int ?_
      refine ⟨_, _, lv (y.map pairD), .tup _, rfl, rfl, ?_⟩
      refine d_ix ?_
      refine d_var 12 rfl ?_ -- _law_pair
      refine d_int ?_
      refine ⟨_, _, lv (y.map pairD), .tup _, rfl, rfl, ?_⟩
      exact dr_neG ⟨_, _, 3, 3, rfl, rfl, gd_pairsL 0 hy4, gd_pairsL 0 hy4, by decide, by decide, fun _ => ⟨_, rfl, rfl, fun _ => rfl, fun h => absurd h (by decide)⟩, fun hh => absurd rfl hh⟩
    rw [show T4.filterMap (fun _ => (none : Option PyData)) = [] from List.filterMap_eq_nil_iff.mpr fun _ _ => rfl]
    refine d_lst ?_
    refine d_nil ?_
    refine ⟨by simp, .inl ⟨[], rfl, ?_⟩⟩
    refine dr_neG ⟨_, _, 1, 1, rfl, rfl, gd_nilL 0, gd_nilL 0, by decide, by decide, fun _ => ⟨_, rfl, fun hh => absurd hh (by decide), fun _ => ?_⟩, fun hh => absurd rfl hh⟩
    refine s_nil ?_
    refine s_one ?_
    refine s_if ?_
    refine d_tcmp (op_eqD hr.units) rfl ?_
    refine d_mod ?_
    refine d_var 7 rfl ?_ -- _law_k
    refine d_int ?_
    refine ⟨_, _, rfl, rfl, (by decide : (0 : Int) < 9), ?_⟩
    refine d_int ?_
    have el : (d ++ [i]).length = d.length + 1 := by rw [List.length_append]; rfl
    refine dr_eqG ⟨_, _, 0, 0, rfl, rfl, .int _ _, .int _ _, by decide, by decide, fun _ => ⟨_, rfl, fun _ => ?_, fun h => absurd h (by decide)⟩, fun _ => ⟨_, rfl, fun h => absurd h (by decide), fun _ => ?_⟩⟩
    · refine s_cons ?_
      refine s_if ?_
      refine d_tnot ?_
      refine d_tcmp (op_eqO Fe (hr.mono (by decide)) be he1 he2) rfl ?_
      refine d_cmeth CR CM FR hr (by decide) ?_
      refine d_glob (v := .ref C) (a := rv C) rfl hmS rfl (fun _ => rfl) ?_
      refine ⟨rfl, ?_⟩
      refine d_cons ?_
      refine d_call c_lruns hr (by decide) rfl ?_
      refine d_cons ?_
      refine d_var 3 rfl ?_ -- _law_heap_here
      refine d_nil ?_
      refine ⟨_, ⟨g, by omega, rfl, rfl⟩, ?_⟩ -- _law_runs
      refine d_cons ?_
      refine d_ix ?_
      refine d_var 5 rfl ?_ -- _law_logs
      refine d_var 8 rfl ?_ -- _law_at
      refine ⟨_, _, _, .own Bq _ I4.b, rfl, atB, ?_⟩
      refine d_nil ?_
      refine ⟨g, h', ps', dg, by omega, ok', hrun', rfl, fun q3 hq3 => ?_⟩
      have I5 := I4.out (o := ses C g h' ps') hq3
      have hx5 : mset μ4 q3 (ses C g h' ps') x.p = some (ses C g h' ps') := I5.s ⟨x.p, h', ps'⟩ hmem
      have hq5 : mset μ4 q3 (ses C g h' ps') q3 = some (ses C g h' ps') := mset_same
      generalize mset μ4 q3 (ses C g h' ps') = μ5 at *
      refine d_ix ?_
      refine d_var 4 rfl ?_ -- _law_sessions
      refine d_var 8 rfl ?_ -- _law_at
      refine ⟨_, _, _, .own A _ I5.a, rfl, atA, ?_⟩
      refine dr_eqOwn (sp := fun _ _ _ _ => True) ⟨q3, x.p, _, _, rfl, rfl, hq5, hx5, ⟨q3, x.p, g, h', h', ps', ok', rfl, hq5, hx5, true, rfl, _, rfl, fun hh => absurd hh (by decide), fun _ => ?_⟩⟩
      refine s_nil ?_
      refine s_cons ?_
      refine s_expr ?_
      refine d_append ?_
      refine d_var 4 rfl ?_ -- _law_sessions
      refine ⟨A, _, rfl, I5.a, ?_⟩
      refine d_meth0 SP.copy hr (by decide) ?_
      refine d_ix ?_
      refine d_var 4 rfl ?_ -- _law_sessions
      refine d_var 8 rfl ?_ -- _law_at
      refine ⟨_, _, _, .own A _ I5.a, rfl, atA, ?_⟩
      refine ⟨x.p, _, rfl, hx5, rfl, ⟨x.p, g, h', ps', dg, by omega, rfl, hx5, fun q4 hq4 => ?_⟩⟩
      refine ⟨_, (I5.out hq4).a, by unfold rvs; rw [List.length_map]; omega, ?_⟩
      refine s_one ?_
      refine s_expr ?_
      refine d_append ?_
      refine d_var 5 rfl ?_ -- _law_logs
      have hB6 : mset (mset μ5 q4 (ses C g h' ps')) A (.lst (rvs L4 ++ [rv q4])) Bq = some (.lst (lgs L4)) := (mset_ne (Ne.symm I5.ab)).trans (I5.out hq4).b
      refine ⟨Bq, _, rfl, hB6, ?_⟩
      refine d_list rfl B.list ?_
      refine d_ix ?_
      refine d_var 5 rfl ?_ -- _law_logs
      refine d_var 8 rfl ?_ -- _law_at
      refine ⟨_, _, _, .own Bq _ hB6, rfl, atB, ?_⟩
      refine ⟨_, .lst _, .inl ⟨_, rfl, ?_⟩⟩
      refine ⟨_, hB6, by unfold lgs; rw [List.length_map]; omega, ?_⟩
      exact ⟨_, _, _, _, _, _, _, _, _, ((I5.copy hmem hq4).mono (t' := 18 * (d ++ [i]).length) (l' := 1 + 2 * (d ++ [i]).length) (by rw [el]; exact Nat.le_refl _) (by rw [el]; omega)), rfl⟩
    · refine s_nil ?_
      exact ⟨_, _, _, _, _, _, _, _, _, (I4.mono (t' := 18 * (d ++ [i]).length) (l' := 1 + 2 * (d ++ [i]).length) (by rw [el]; exact Nat.le_refl _) (by rw [el]; omega)), rfl⟩
  · obtain ⟨L, T, x1, x7, x8, x9, x10, x11, x12, I, rfl⟩ := hv
    have hbd : (List.range (nn - 1).toNat).length ≤ 20 := by rw [List.length_range]; omega
    generalize (List.range (nn - 1).toNat).length = dl at *
    have hLb := I.len.1
    refine s_cons ?_
    refine s_forL PassesOwn.never rfl ?_
    refine i_enumL rfl B.enumerate ?_
    refine d_var 4 rfl ?_ -- _law_sessions
    refine ⟨_, .own A _ I.a, fun x hx j z e => ?_, _, L.zipIdx, fun x => AV.e (x.2 : Int) (.ref x.1.p), fun d ρ' μ' => ∃ (x8 x11 : Option AV), μ' Pl = some (.tab qLed) ∧ μ' A = some (.lst (rvs L)) ∧ μ' Bq = some (.lst (lgs L)) ∧ (∀ y ∈ L.drop d.length, μ' y.p = some (ses C g y.h y.ps)) ∧
      ρ' = [some (lv (ns.map .int)), some x1, some (lv (nh.map .int)), some (.d (listL g)), some (rv A), some (rv Bq), some (rv Dq), x7, x8, x9, x10, x11, x12], enAll_rvs L, ⟨x8, x11, I.pl, I.a, I.b, fun y hy => I.s y (by simpa using hy), rfl⟩, fun d r ρ μ e h => ?_, fun d a r ρ μ' e hv => ?_, fun ρ μ' hv => ?_⟩
    · obtain ⟨y, _, rfl⟩ := List.mem_map.mp hx
      cases e
    · obtain ⟨_, _, _, h, _⟩ := h
      exact .own A _ h
    · obtain ⟨y8, y11, hl, ha, hb, hs, rfl⟩ := hv
      obtain ⟨e1, e2⟩ := zip_split e
      obtain ⟨x, j⟩ := a
      have e1 : j = d.length := e1
      subst e1
      have e2 : L = d.map (·.1) ++ x :: r.map (·.1) := e2
      have hdm : (d.map (·.1)).length = d.length := List.length_map _
      have hdr : L.drop d.length = x :: r.map (·.1) := by rw [e2, ← hdm, List.drop_left]
      have hdr1 : L.drop (d.length + 1) = r.map (·.1) := by rw [← List.drop_drop, hdr]; rfl
      rw [hdr] at hs
      have hx := hs x (List.mem_cons_self ..)
      obtain ⟨okx, runx, totx⟩ := I.ok x (by rw [e2]; simp)
      have hnd := I.nd
      refine g_en rfl ?_
      refine ⟨_, _, rfl, rfl, ?_⟩
      refine gs_cons ?_
      refine g_name 8 ?_ sc_law.nd
      refine gs_cons ?_
      refine g_name 11 ?_ sc_law.nd
      refine gs_nil ?_
      refine s_one ?_
      refine s_if ?_
      refine d_tnot ?_
      refine d_tval ?_
      refine d_call c_led hr (by decide) rfl ?_
      refine d_cons ?_
      refine d_var 11 rfl ?_ -- _law_session
      refine d_cons ?_
      refine d_var 3 rfl ?_ -- _law_heap_here
      refine d_cons ?_
      refine d_ix ?_
      refine d_var 5 rfl ?_ -- _law_logs
      refine d_var 8 rfl ?_ -- _law_at
      have atB : atI (lgs L) ((d.length : Nat) : Int) = some (lv (x.ps.map pairD)) := by
        rw [← hdm]
        have := atI_mid (d.map (·.1)) (r.map (·.1)) x (fun s : SS => lv (s.ps.map pairD))
        rw [← e2] at this
        exact this
      refine ⟨_, _, _, .own Bq _ hb, rfl, atB, ?_⟩
      refine d_nil ?_
      refine ⟨x.p, g, x.h, x.ps, dg, by omega, okx, runx, rfl, hx, hl, ?_⟩ -- _law_led_back
      refine ⟨_, rfl, fun hh => absurd hh (by decide), fun _ => ?_⟩
      refine s_nil ?_
      have tx : ∀ {y : Addr} {v : RO}, μ' y = some v → (∀ C fs, v ≠ .ins C fs) → mset μ' x.p (ses C g g []) y = some v := fun h1 h2 => (mset_ne fun z => by rw [z, hx] at h1; exact h2 _ _ (Option.some.inj h1).symm).trans h1
      have el : (d ++ [(x, d.length)]).length = d.length + 1 := by rw [List.length_append]; rfl
      refine ⟨_, _, tx hl (fun _ _ z => nomatch z), tx ha (fun _ _ z => nomatch z), tx hb (fun _ _ z => nomatch z), fun y hy => ?_, rfl⟩
      rw [el, hdr1] at hy
      refine (mset_ne fun z => ?_).trans (hs y (List.mem_cons_of_mem _ hy))
      rw [e2, List.map_append, List.map_cons] at hnd
      exact (List.nodup_cons.mp (List.nodup_append.mp hnd).2.1).1 (by rw [← z]; exact List.mem_map_of_mem hy)
    · obtain ⟨y8, y11, hl, ha, hb, hs, rfl⟩ := hv
      refine s_one ?_
      refine s_ret ?_
      refine d_bl ?_
      exact hk _
end
end K87
end

section
set_option Elab.async false
set_option linter.all false
set_option maxRecDepth 100000
set_option maxHeartbeats 1100000
set_option autoImplicit false
/-! All of it put together (printed by mkasm.py). -/
namespace K87
open PySem PySem.Spec PyProof.Rows L2 K87M LamX
structure Df (K : PySem.W.Frag) (mg : Str → Option Value) (x : Str) (i : Nat) (ps : List Str) : Prop where
  ex : ∃ (f : Addr) (fd : FuncData), C8.Def K mg x (top i) f fd ∧ Binds K fd ps []
structure Fn (K : PySem.W.Frag) (x qual : Str) (i : Nat) (ps : List Str) (f : Addr) : Prop where
  ex : ∃ fd : FuncData, C8.Fun K x qual (mth i) f fd ∧ Binds K fd ps []
structure FnS (K : PySem.W.Frag) (x qual : Str) (i : Nat) (f : Addr) : Prop where
  ex : ∃ fd : FuncData, C8.Fun K x qual (mth i) f fd ∧ fd.defaults = .none
structure DfC (K : PySem.W.Frag) (mg : Str → Option Value) (x : Str) (i : Nat) (ps : List Str) (c : Addr) : Prop where
  ex : ∃ (f : Addr) (fd : FuncData), DefC K mg x (top i) f fd c ∧ Binds K fd ps []
/-- what the top has left -/
structure Fcts (K : PySem.W.Frag) (mg : Str → Option Value) (C SFa SFi NUa NUi cT cL : Addr) : Prop where
  B : Bl mg
  push : ∃ t, mg "PUSH" = some (.str "push" t)
  iden : ∃ aI, mg "IDENTITY" = some (.ref aI) ∧ ∀ G, Dp K G (.ref aI) (effD [] 0 [])
  lett : ∃ t, mg "LETTERS" = some (.str letters t)
  most : ∃ t, mg "MOST_LETTERS" = some (.int 8 t)
  gC : mg "Session" = some (.ref C)
  S : SesC K C
  I : IsiC K C
  hd : HdC K mg SFa NUa
  SF : SF K mg SFa SFi
  NU : NUc K mg NUa NUi
  init : ∃ f, Mk K C f ∧ Fn K "__init__" "Session.__init__" 0 ["self", "stack"] f
  len : ∃ f, PySem.W.findIn K (.ref C) "__len__" = some (some (.ref f)) ∧ PySem.W.isFn K (.ref f) = true ∧ Fn K "__len__" "Session.__len__" 1 ["self"] f
  eq : ∃ f, PySem.W.findIn K (.ref C) "__eq__" = some (some (.ref f)) ∧ PySem.W.isFn K (.ref f) = true ∧ Fn K "__eq__" "Session.__eq__" 2 ["self", "other"] f
  repl : ∃ mc q f, ClX.CRead K C mc ∧ ClX.CMet K C mc "replayed" q f ∧ Fn K "replayed" "Session.replayed" 3 ["cls", "stack", "log"] f
  stk : ∃ q f, PropOf K C "stack" q f ∧ Fn K "stack" "Session.stack" 5 ["self"] f
  log : ∃ f, Meth K C "log" f ∧ Fn K "log" "Session.log" 6 ["self"] f
  steps : ∃ f, Meth K C "steps" f ∧ Fn K "steps" "Session.steps" 7 ["self"] f
  effect : ∃ f, Meth K C "effect" f ∧ Fn K "effect" "Session.effect" 8 ["self"] f
  what : ∃ f, BMeth K C "what_if" f ∧ FnS K "what_if" "Session.what_if" 9 f
  do_ : ∃ f, Meth K C "do" f ∧ FnS K "do" "Session.do" 10 f
  undo : ∃ f, Meth K C "undo" f ∧ Fn K "undo" "Session.undo" 11 ["self", "user"] f
  fresh : ∃ f, Meth K C "fresh" f ∧ Fn K "fresh" "Session.fresh" 12 ["self"] f
  copy : ∃ f, Meth K C "copy" f ∧ Fn K "copy" "Session.copy" 13 ["self"] f
  d10 : Df K mg "is_integer" 10 ["value"]
  d11 : Df K mg "is_count" 11 ["value"]
  d12 : Df K mg "is_run" 12 ["value"]
  d15 : Df K mg "size_of" 15 ["stack"]
  d16 : Df K mg "count_below" 16 ["stack", "number"]
  d17 : Df K mg "popped" 17 ["stack", "count"]
  d18 : Df K mg "joined_runs" 18 ["stack", "other"]
  d19 : Df K mg "pushed" 19 ["stack", "number", "count"]
  d13 : Df K mg "is_stack" 13 ["value"]
  d14 : Df K mg "check_stack" 14 ["value"]
  d22 : Df K mg "is_step" 22 ["value"]
  d23 : Df K mg "check_sequence" 23 ["value"]
  d24 : Df K mg "after_step" 24 ["stack", "step"]
  d30 : Df K mg "is_pair" 30 ["value"]
  d31 : Df K mg "are_pairs" 31 ["value"]
  d34 : Df K mg "undominated" 34 ["pairs"]
  d35 : Df K mg "shifted" 35 ["pairs", "by"]
  d36 : Df K mg "passing" 36 ["pairs", "new"]
  d37 : Df K mg "taken" 37 ["effect", "new"]
  d38 : Df K mg "joined" 38 ["first", "second"]
  d39 : Df K mg "effect_of_step" 39 ["step"]
  d40 : Df K mg "effect_of_valid" 40 ["sequence"]
  d41 : Df K mg "effect_of" 41 ["sequence"]
  d32 : Df K mg "is_effect" 32 ["value"]
  d33 : Df K mg "check_effect" 33 ["value"]
  d42 : Df K mg "removed_by" 42 ["effect", "stack"]
  d43 : Df K mg "removed" 43 ["effect", "stack"]
  d44 : Df K mg "applied" 44 ["effect", "stack"]
  d48 : Df K mg "is_name" 48 ["value"]
  d49 : Df K mg "check_user" 49 ["user"]
  d52 : Df K mg "_law_pool" 52 ["_law_script", "_law_k"]
  d53 : Df K mg "_law_take" 53 ["_law_pool_here", "_law_sides"]
  d54 : Df K mg "_law_numbers" 54 ["_law_pool_here", "_law_many"]
  d55 : Df K mg "_law_steps" 55 ["_law_pool_here", "_law_numbers_here", "_law_many", "_law_most"]
  d56 : Df K mg "_law_runs" 56 ["_law_heap_here"]
  d57 : Df K mg "_law_heap" 57 ["_law_pool_here", "_law_numbers_here", "_law_most"]
  d58 : Df K mg "_law_done" 58 ["_law_heap_here", "_law_step"]
  d59 : Df K mg "_law_run" 59 ["_law_heap_here", "_law_steps_here"]
  d60 : Df K mg "_law_effect" 60 ["_law_steps_here"]
  d61 : Df K mg "_law_users" 61 []
  d63 : Df K mg "_law_replay" 63 ["_law_heap_here", "_law_log"]
  d25 : Df K mg "stacks_after" 25 ["stack", "sequence"]
  d26 : Df K mg "run_valid" 26 ["stack", "sequence"]
  d27 : Df K mg "run" 27 ["stack", "sequence"]
  d62 : Df K mg "_law_heard" 62 ["_law_call"]
  d64 : Df K mg "_law_given" 64 ["_law_session", "_law_user", "_law_steps_here"]
  d66 : Df K mg "_law_stands" 66 ["_law_session", "_law_heap_here", "_law_log"]
  dT : DfC K mg "_law_turn" 65 ["_law_pool_here", "_law_session", "_law_heap_here", "_law_log", "_law_numbers_here"] cT
  dL : DfC K mg "_law_led_back" 67 ["_law_session", "_law_heap_here", "_law_log"] cL
theorem Fcts.law {P : Program} {w : World} {K : PySem.W.Frag} {mg : Str → Option Value} {base : Heap} {f Pt Pl : Addr} {fd : FuncData} {C SFa SFi NUa NUi cT cL : Addr} (F : Fcts K mg C SFa SFi NUa NUi cT cL) (TBt : TabB base mg cT Pt) (TBl : TabB base mg cL Pl)
    (D : C8.Fun K "law" "law" (top 68) f fd) : FnOk P w K mg base CX0 14 f fd ["_law_script"] (spF K (fsLaw Pt Pl)) := by
  have B := F.B
  have S := F.S
  obtain ⟨_, _, D10, b10⟩ := F.d10.ex
  have c_is_integer := cal_is_integer (P := P) (w := w) (base := base) D10 b10 B
  obtain ⟨_, _, D11, b11⟩ := F.d11.ex
  have c_is_count := cal_is_count (P := P) (w := w) (base := base) D11 b11 B c_is_integer
  obtain ⟨_, _, D12, b12⟩ := F.d12.ex
  have c_is_run := cal_is_run (P := P) (w := w) (base := base) D12 b12 B c_is_integer c_is_count
  obtain ⟨_, _, D15, b15⟩ := F.d15.ex
  have c_size_of := cal_size_of (P := P) (w := w) (base := base) D15 b15 B
  obtain ⟨_, _, D16, b16⟩ := F.d16.ex
  have c_count_below := cal_count_below (P := P) (w := w) (base := base) D16 b16 B
  obtain ⟨_, _, D17, b17⟩ := F.d17.ex
  have c_popped := cal_popped (P := P) (w := w) (base := base) D17 b17 B
  obtain ⟨_, _, D18, b18⟩ := F.d18.ex
  have c_joined_runs := cal_joined_runs (P := P) (w := w) (base := base) D18 b18 B
  obtain ⟨_, _, D19, b19⟩ := F.d19.ex
  have c_pushed := cal_pushed (P := P) (w := w) (base := base) D19 b19 B c_popped c_count_below c_joined_runs
  obtain ⟨_, _, D13, b13⟩ := F.d13.ex
  have c_is_stack := cal_is_stack (P := P) (w := w) (base := base) D13 b13 B c_is_run
  obtain ⟨_, _, D14, b14⟩ := F.d14.ex
  have c_check_stack := cal_check_stack (P := P) (w := w) (base := base) D14 b14 B c_is_stack
  obtain ⟨_, _, D22, b22⟩ := F.d22.ex
  have c_is_step := cal_is_step (P := P) (w := w) (base := base) D22 b22 B c_is_integer c_is_count
  obtain ⟨_, _, D23, b23⟩ := F.d23.ex
  have c_check_sequence := cal_check_sequence (P := P) (w := w) (base := base) D23 b23 B c_is_step
  obtain ⟨_, _, D24, b24⟩ := F.d24.ex
  have c_after_step := cal_after_step (P := P) (w := w) (base := base) D24 b24 B F.push c_pushed c_size_of c_popped
  obtain ⟨_, _, D30, b30⟩ := F.d30.ex
  have c_is_pair := cal_is_pair (P := P) (w := w) (base := base) D30 b30 B c_is_integer
  obtain ⟨_, _, D31, b31⟩ := F.d31.ex
  have c_are_pairs := cal_are_pairs (P := P) (w := w) (base := base) D31 b31 B c_is_pair
  obtain ⟨_, _, D34, b34⟩ := F.d34.ex
  have c_undominated := cal_undominated (P := P) (w := w) (base := base) D34 b34 B
  obtain ⟨_, _, D35, b35⟩ := F.d35.ex
  have c_shifted := cal_shifted (P := P) (w := w) (base := base) D35 b35 B
  obtain ⟨_, _, D36, b36⟩ := F.d36.ex
  have c_passing := cal_passing (P := P) (w := w) (base := base) D36 b36 B
  obtain ⟨_, _, D37, b37⟩ := F.d37.ex
  have c_taken := cal_taken (P := P) (w := w) (base := base) D37 b37 B c_count_below
  obtain ⟨_, _, D38, b38⟩ := F.d38.ex
  have c_joined := cal_joined (P := P) (w := w) (base := base) D38 b38 B c_size_of c_taken c_passing c_popped c_undominated c_shifted c_joined_runs
  obtain ⟨_, _, D39, b39⟩ := F.d39.ex
  have c_effect_of_step := cal_effect_of_step (P := P) (w := w) (base := base) D39 b39 B F.push
  obtain ⟨_, _, D40, b40⟩ := F.d40.ex
  have c_effect_of_valid := cal_effect_of_valid (P := P) (w := w) (base := base) D40 b40 B F.iden c_joined c_effect_of_step
  obtain ⟨_, _, D41, b41⟩ := F.d41.ex
  have c_effect_of := cal_effect_of (P := P) (w := w) (base := base) D41 b41 B c_check_sequence c_effect_of_valid
  obtain ⟨_, _, D32, b32⟩ := F.d32.ex
  have c_is_effect := cal_is_effect (P := P) (w := w) (base := base) D32 b32 B c_are_pairs c_is_integer c_is_stack
  obtain ⟨_, _, D33, b33⟩ := F.d33.ex
  have c_check_effect := cal_check_effect (P := P) (w := w) (base := base) D33 b33 B c_is_effect
  obtain ⟨_, _, D42, b42⟩ := F.d42.ex
  have c_removed_by := cal_removed_by (P := P) (w := w) (base := base) D42 b42 B c_taken c_size_of
  obtain ⟨_, _, D43, b43⟩ := F.d43.ex
  have c_removed := cal_removed (P := P) (w := w) (base := base) D43 b43 B c_check_effect c_check_stack c_removed_by
  obtain ⟨_, _, D44, b44⟩ := F.d44.ex
  have c_applied := cal_applied (P := P) (w := w) (base := base) D44 b44 B c_removed c_joined_runs c_popped
  obtain ⟨_, _, D48, b48⟩ := F.d48.ex
  have c_is_name := cal_is_name (P := P) (w := w) (base := base) D48 b48 B F.lett F.most
  obtain ⟨_, _, D49, b49⟩ := F.d49.ex
  have c_check_user := cal_check_user (P := P) (w := w) (base := base) D49 b49 B c_is_name
  obtain ⟨_, _, D52, b52⟩ := F.d52.ex
  have c__law_pool := cal_pool (P := P) (w := w) (base := base) D52 b52 B
  obtain ⟨_, _, D53, b53⟩ := F.d53.ex
  have c__law_take := cal_take (P := P) (w := w) (base := base) D53 b53
  obtain ⟨_, _, D54, b54⟩ := F.d54.ex
  have c__law_numbers := cal_numbers (P := P) (w := w) (base := base) D54 b54 B c__law_take
  obtain ⟨_, _, D55, b55⟩ := F.d55.ex
  have c__law_steps := cal_mksteps (P := P) (w := w) (base := base) D55 b55 B c__law_take
  obtain ⟨_, _, D56, b56⟩ := F.d56.ex
  have c__law_runs := cal_lruns (P := P) (w := w) (base := base) D56 b56 B
  obtain ⟨_, _, D57, b57⟩ := F.d57.ex
  have c__law_heap := cal_heap (P := P) (w := w) (base := base) D57 b57 B c__law_take
  obtain ⟨_, _, D58, b58⟩ := F.d58.ex
  have c__law_done := cal_done (P := P) (w := w) (base := base) D58 b58 B
  obtain ⟨_, _, D59, b59⟩ := F.d59.ex
  have c__law_run := cal_lrun (P := P) (w := w) (base := base) D59 b59 B c__law_done
  obtain ⟨_, _, D60, b60⟩ := F.d60.ex
  have c__law_effect := cal_leff (P := P) (w := w) (base := base) D60 b60 B c__law_runs
  obtain ⟨_, _, D61, b61⟩ := F.d61.ex
  have c__law_users := cal_users (P := P) (w := w) (base := base) D61 b61
  obtain ⟨_, _, D63, b63⟩ := F.d63.ex
  have c__law_replay := cal_replay (P := P) (w := w) (base := base) D63 b63 B c__law_run
  obtain ⟨_, _, D25, b25⟩ := F.d25.ex
  obtain ⟨_, _, D26, b26⟩ := F.d26.ex
  obtain ⟨_, _, D27, b27⟩ := F.d27.ex
  obtain ⟨_, _, D62, b62⟩ := F.d62.ex
  obtain ⟨_, _, D64, b64⟩ := F.d64.ex
  obtain ⟨_, _, D66, b66⟩ := F.d66.ex
  obtain ⟨_, GO⟩ := gen_stacks (P := P) (w := w) (base := base) D25 B F.SF c_after_step
  have c_run_valid := cal_run_valid D26 b26 B F.SF GO D25 b25
  have c_run := cal_run D27 b27 B c_check_stack c_check_sequence c_run_valid
  obtain ⟨f0, M0, F0⟩ := F.init
  obtain ⟨_, F0, b0⟩ := F0.ex
  have M : C8.Mak P w K mg base 6 "Session" C (spF K (fsInit C)) [] := ⟨_, _, _, [], M0, fn_init F0 S c_check_stack, F.gC, b0, .nil⟩
  obtain ⟨f1, l1, l2, F1⟩ := F.len
  obtain ⟨_, F1, b1⟩ := F1.ex
  obtain ⟨f2, e1, e2, F2⟩ := F.eq
  obtain ⟨_, F2, b2⟩ := F2.ex
  obtain ⟨mc, q3, f3, CR, CM, F3⟩ := F.repl
  obtain ⟨_, F3, b3⟩ := F3.ex
  obtain ⟨q5, f5, P5, F5⟩ := F.stk
  obtain ⟨_, F5, b5⟩ := F5.ex
  obtain ⟨f6, M6, F6⟩ := F.log
  obtain ⟨_, F6, b6⟩ := F6.ex
  obtain ⟨f7, M7, F7⟩ := F.steps
  obtain ⟨_, F7, b7⟩ := F7.ex
  obtain ⟨f8, M8, F8⟩ := F.effect
  obtain ⟨_, F8, b8⟩ := F8.ex
  obtain ⟨f9, M9, F9⟩ := F.what
  obtain ⟨_, F9, df9⟩ := F9.ex
  obtain ⟨fA, MA, FA⟩ := F.do_
  obtain ⟨_, FA, dfA⟩ := FA.ex
  obtain ⟨fB, MB, FB⟩ := F.undo
  obtain ⟨_, FB, bB⟩ := FB.ex
  obtain ⟨fC, MC, FC⟩ := F.fresh
  obtain ⟨_, FC, bC⟩ := FC.ex
  obtain ⟨fD, MD, FD⟩ := F.copy
  obtain ⟨_, FD, bD⟩ := FD.ex
  have m_log : C8.Met P w K mg base 1 C "log" (spF K (fsLog C)) [] := ⟨_, _, _, [], S.cls, M6, fn_log F6 S B, b6, .nil⟩
  have m_steps : C8.Met P w K mg base 1 C "steps" (spF K (fsSteps C)) [] := ⟨_, _, _, [], S.cls, M7, fn_steps F7 S B, b7, .nil⟩
  have m_eff : C8.Met P w K mg base 6 C "effect" (spF K (fsEff C)) [] := ⟨_, _, _, [], S.cls, M8, fn_effect F8 c_effect_of m_steps, b8, .nil⟩
  have w_what := fn_what F9 df9 S B c_is_step c_run
  have w_do := fn_do FA dfA S B c_check_user M9 w_what
  have w_undo := fn_undo FB bB S B F.NU c_check_user c_run
  have m_fresh : C8.Met P w K mg base 8 C "fresh" (spF K (fsFresh C)) [] := ⟨_, _, _, [], S.cls, MC, fn_fresh FC S M, bC, .nil⟩
  have m_copy : C8.Met P w K mg base 9 C "copy" (spF K (fsCopy C)) [] := ⟨_, _, _, [], S.cls, MD, fn_copy FD S m_fresh, bD, .nil⟩
  have w_repl := fn_repl F3 b3 S M MA w_do
  have SP : SesP P w K mg base C SFa NUa := ⟨S, m_log, m_eff, m_copy, ⟨q5, f5, _, P5, fn_stack F5 S, b5⟩, ⟨f1, _, l1, l2, fn_len F1 S B, b1⟩, ⟨f2, _, e1, e2, fn_eq F2 S B F.I F.gC, b2⟩, ⟨fB, MB, w_undo⟩⟩
  have c_given := cal_given D64 b64 B S MA w_do
  have c_stands := cal_stands D66 b66 B SP c__law_runs c__law_replay c__law_effect
  obtain ⟨_, _, DT, bT⟩ := F.dT.ex
  obtain ⟨_, _, DL, bL⟩ := F.dL.ex
  have c_turn := cal_turn DT bT B SP F.hd D62 b62 TBt c__law_users c__law_take c__law_steps c__law_run c_given c__law_runs c__law_replay
  have c_led := cal_led DL bL B SP F.hd D62 b62 TBl c__law_runs c__law_replay
  exact fn_law D B SP M F.gC CR CM w_repl c__law_pool c__law_take c__law_numbers c__law_heap c__law_runs c_turn c_stands c_led c_applied
end K87
end

section
set_option Elab.async false
set_option linter.all false
set_option maxRecDepth 100000
set_option maxHeartbeats 1100000
set_option autoImplicit false
/-! The end: from the facts to the row. -/
namespace K87
open PySem PySem.Spec PyProof.Rows L2 K87M LamX
section
variable {mg : Str → Option Value} {K : PySem.W.Frag} {h : Heap}
def bares (K : PySem.W.Frag) : Bool := K.all fun p => match p.2.cls, p.2.data with
  | .none, .fields vs => !vs.isEmpty
  | _, _ => true
theorem bares_no {b : Addr} (k : bares K = true) (X : K.In h) (e : h.get? b = some { cls := .none, data := .fields #[] }) : K.lookup b = none := by
  cases q : K.lookup b with
  | none => rfl
  | some o =>
    have z := X _ _ q
    rw [e] at z
    cases z
    have hm : ∀ l : PySem.W.Frag, List.lookup b l = some { cls := .none, data := .fields #[] } → (b, ({ cls := .none, data := .fields #[] } : Obj)) ∈ l := by
      intro l
      induction l with
      | nil => intro h; cases h
      | cons p r ih =>
        intro h
        obtain ⟨a, o⟩ := p
        rw [List.lookup_cons] at h
        split at h
        · rename_i e
          cases h
          rw [beq_iff_eq.mp e]
          exact List.mem_cons_self ..
        · exact List.mem_cons_of_mem _ (ih h)
    have := List.all_eq_true.mp k _ (hm K q)
    exact absurd this (by simp)
theorem df_mk {x : Str} {i : Nat} {ps : List Str} {f : Addr} {oc : Value} {od : Option Addr} {kV doc pm cd ct : Value} {an : Option Addr} {sl : Array (Option Value)} (X : K.In h) (G : h.Ns mainGlobals mg)
    (hb : ∀ (kV doc pm : Value) (an : Option Addr) (cdv ct : Value) (us : List Value), us.length = ps.length → bindArgs (PySem.W.fnOf x x (C8.fnArgs (top i)) (C8.fnBody (top i)) (C8.fnScope (top i)) .none kV doc pm an cdv ct) ⟨us, []⟩ = pure (ps.zip us))
    (a : PySem.W.nsIn K mainGlobals x = some (some (.ref f))) (l : K.lookup f = some ⟨oc, od, .func (PySem.W.fnOf x x (C8.fnArgs (top i)) (C8.fnBody (top i)) (C8.fnScope (top i)) .none kV doc pm an cd ct), sl⟩) (c : PySem.W.codeIn K cd x = true) (k : PySem.W.keepIn K (.ref f) = true) : Df K mg x i ps :=
  have D : C8.Def K mg x (top i) f _ := ⟨⟨⟨oc, od, .none, kV, doc, pm, an, cd, ct, sl, rfl, l, c⟩⟩, PySem.W.mg_of X G a, k⟩
  ⟨f, _, D, D.fn.binds rfl hb⟩
theorem dfC_mk {x : Str} {i : Nat} {ps : List Str} {f cc : Addr} {oc : Value} {od : Option Addr} {kV doc pm ct : Value} {an : Option Addr} {sl : Array (Option Value)} (X : K.In h) (G : h.Ns mainGlobals mg)
    (hb : ∀ (kV doc pm : Value) (an : Option Addr) (cdv ct : Value) (us : List Value), us.length = ps.length → bindArgs (PySem.W.fnOf x x (C8.fnArgs (top i)) (C8.fnBody (top i)) (C8.fnScope (top i)) .none kV doc pm an cdv ct) ⟨us, []⟩ = pure (ps.zip us))
    (a : PySem.W.nsIn K mainGlobals x = some (some (.ref f))) (l : K.lookup f = some ⟨oc, od, .func (PySem.W.fnOf x x (C8.fnArgs (top i)) (C8.fnBody (top i)) (C8.fnScope (top i)) .none kV doc pm an (.ref cc) ct), sl⟩) (c : PySem.W.codeIn K (.ref cc) x = true) (k : PySem.W.keepIn K (.ref f) = true) : DfC K mg x i ps cc :=
  have Fu : C8.Fun K x x (top i) f _ := ⟨⟨oc, od, .none, kV, doc, pm, an, .ref cc, ct, sl, rfl, l, c⟩⟩
  ⟨f, _, ⟨PySem.W.mg_of X G a, k, ⟨oc, od, .none, kV, doc, pm, an, ct, sl, rfl, l, c⟩⟩, Fu.binds rfl hb⟩
theorem fn_mk {x qual : Str} {i : Nat} {ps : List Str} {f : Addr} {oc : Value} {od : Option Addr} {kV doc pm cd ct : Value} {an : Option Addr} {sl : Array (Option Value)}
    (hb : ∀ (kV doc pm : Value) (an : Option Addr) (cdv ct : Value) (us : List Value), us.length = ps.length → bindArgs (PySem.W.fnOf x qual (C8.fnArgs (mth i)) (C8.fnBody (mth i)) (C8.fnScope (mth i)) .none kV doc pm an cdv ct) ⟨us, []⟩ = pure (ps.zip us))
    (l : K.lookup f = some ⟨oc, od, .func (PySem.W.fnOf x qual (C8.fnArgs (mth i)) (C8.fnBody (mth i)) (C8.fnScope (mth i)) .none kV doc pm an cd ct), sl⟩) (c : PySem.W.codeIn K cd qual = true) : Fn K x qual i ps f :=
  have Fu : C8.Fun K x qual (mth i) f _ := ⟨⟨oc, od, .none, kV, doc, pm, an, cd, ct, sl, rfl, l, c⟩⟩
  ⟨_, Fu, Fu.binds rfl hb⟩
theorem fnS_mk {x qual : Str} {i : Nat} {f : Addr} {oc : Value} {od : Option Addr} {kV doc pm cd ct : Value} {an : Option Addr} {sl : Array (Option Value)}
    (l : K.lookup f = some ⟨oc, od, .func (PySem.W.fnOf x qual (C8.fnArgs (mth i)) (C8.fnBody (mth i)) (C8.fnScope (mth i)) .none kV doc pm an cd ct), sl⟩) (c : PySem.W.codeIn K cd qual = true) : FnS K x qual i f :=
  ⟨_, ⟨⟨oc, od, .none, kV, doc, pm, an, cd, ct, sl, rfl, l, c⟩⟩, rfl⟩
/-- the table of a def that makes lambdas -/
theorem tab_of {q : Program} {x : Str} {i : Nat} {ps : List Str} {c : Addr} (X : K.In h) (D : DfC K mg x i ps c) (hr : ((recsOf q).any fun e => e.name == x) = true)
    (T : ∀ d ∈ recsOf q, ∃ a o fd c P, mg d.name = some (.ref a) ∧ h.get? a = some o ∧ o.data = .func fd ∧ fd.code = .ref c ∧ h.IsCode c P #[] ∧ h.TableAt c P #[]) :
    ∃ P, h.get? P = some { cls := .none, data := .fields #[] } ∧ PySem.W.CodeHd h c P := by
  obtain ⟨f, fd, D, _⟩ := D.ex
  obtain ⟨r, hm, hn⟩ := List.any_eq_true.mp hr
  have hn' : r.name = x := beq_iff_eq.mp hn
  obtain ⟨a, o, fd', c', P, g1, g2, g3, g4, g5, g6⟩ := T r hm
  rw [hn', D.mgf] at g1
  cases g1
  obtain ⟨oc, od, dV, kV, doc, pm, an, ct, osl, rfl, lk, _⟩ := D.ex
  have g7 := X _ _ lk
  rw [g7] at g2
  cases g2
  cases g3
  cases g4
  exact ⟨P, g6.2, PySem.W.CodeHd.of g5 g6⟩
theorem pass {p q : Prop} (h : p) (k : p → q) : q := k h
/-- where the code object's table lies -/
structure At11 (K : PySem.W.Frag) (c P : Addr) : Prop where
  ex : ∃ (oc : Value) (od : Option Addr) (vs : Array Value) (sl : Array (Option Value)), K.lookup c = some ⟨oc, od, .fields vs, sl⟩ ∧ vs[11]? = some (.ref P)
theorem At11.same {c P P' : Addr} (X : K.In h) (a : At11 K c P) (d : PySem.W.CodeHd h c P') : P = P' := by
  obtain ⟨oc, od, vs, sl, lk, e⟩ := a.ex
  obtain ⟨o, us, file, tf, flags, tg, inF, text, tt, g1, g2, g3, g4, _⟩ := d
  rw [X _ _ lk] at g1
  cases g1
  cases g3
  rw [e] at g4
  cases g4
  rfl
theorem dps_ints (G : Hp) : ∀ ns : List Int, DpAll K G (ns.map V.int) (ns.map PyData.int)
  | [] => .nil
  | n :: r => .cons (.int n) (dps_ints G r)
/-- the law's promise at the start -/
theorem law_start {H : Hp} {a Pt Pl : Addr} {ns : List Int} (hl : ns.length ≤ 63) (hne : Pt ≠ Pl) (h1 : H Pt = some (.tbl #[])) (h2 : H Pl = some (.tbl #[])) (hS : SqL K H a (ns.map V.int)) : spF K (fsLaw Pt Pl) [.ref a] H (fun v _ => v = .bl true) fun _ _ _ => False := by
  let G : Hp := fun b => if b = Pt ∨ b = Pl then none else H b
  let μ : Mu := fun b => if b = Pt then some (.tab qTurn) else if b = Pl then some (.tab qLed) else none
  have hG : Ext G H := fun b o e => by
    have e : (if b = Pt ∨ b = Pl then none else H b) = some o := e
    split at e
    · cases e
    · exact e
  have hS' : SqL K G a (ns.map V.int) := by
    rcases hS with r | r
    · have na : ¬(a = Pt ∨ a = Pl) := by
        rintro (z | z)
        · rw [z] at r
          rcases r with r | ⟨o, r⟩ <;> · rw [h1] at r; cases r
        · rw [z] at r
          rcases r with r | ⟨o, r⟩ <;> · rw [h2] at r; cases r
      left
      have eG : G a = H a := if_neg na
      rcases r with r | ⟨o, r⟩
      · exact .inl (eG.trans r)
      · exact .inr ⟨o, eG.trans r⟩
    · exact .inr r
  refine ⟨G, μ, [lv (ns.map .int)], fun v _ => v = bv true, F0, .cons (.lst hS' (dps_ints G ns)) .nil, ⟨hG, fun p o e => ?_⟩, ?_, fun v x G' μ' H' hk _ _ r => ?_, PostF.none⟩
  · have e : (if p = Pt then some (RO.tab qTurn) else if p = Pl then some (.tab qLed) else none) = some o := e
    split at e
    · rename_i z
      cases e
      refine ⟨if_pos (.inl z), #[], by rw [z]; exact h1, ?_, fun pos cv hc => ?_⟩
      · trivial
      · cases hc
    · split at e
      · rename_i z
        cases e
        refine ⟨if_pos (.inr z), #[], by rw [z]; exact h2, ?_, fun pos cv hc => ?_⟩
        · trivial
        · cases hc
      · cases e
  · exact ⟨ns, Nat.le_trans hl (by rw [sizeLine_eq]; decide), by omega, rfl, if_pos rfl, (if_neg (Ne.symm hne)).trans (if_pos rfl), fun _ => rfl⟩
  · subst hk
    exact rep_bl r
end
theorem k87_walk {l : PySem.W.OpenLaw} {q : Program} {loose : List Str} {XP : (Str → Option Value) → Heap → Prop} {YP : World → Heap → Prop} {d : DefRec} {K : Params → PySem.W.Frag} (hn : l.most = some 63) (hdf : d.params.defaults = []) (hnm : d.name = "law") (hT : ((recsOf q).any fun e => e.name == ("_law_turn" : Str)) = true) (hL : ((recsOf q).any fun e => e.name == ("_law_led_back" : Str)) = true) (hY : ∀ (w : World) (h : Heap), YP w h → (K w.params).In h) (hB : ∀ w : World, bares (K w.params) = true) (F : ∀ (w : World) (mg : Str → Option Value) (h : Heap), (K w.params).In h → h.Ns mainGlobals mg → ∃ (C SFa SFi NUa NUi cT cL fl : Addr) (fdl : FuncData), Fcts (K w.params) mg C SFa SFi NUa NUi cT cL ∧ (∃ tT tL : Addr, At11 (K w.params) cT tT ∧ At11 (K w.params) cL tL ∧ tT ≠ tL) ∧ mg "law" = some (.ref fl) ∧ C8.Fun (K w.params) "law" "law" (top 68) fl fdl ∧ ∀ (s : Shared) (u : Value), BindsTo s fdl ⟨[u], []⟩ [("_law_script", u)]) : PySem.W.WalkO q loose XP YP l.row.toRowW d [] (fun f vs => PySem.call f vs) := by
  refine Att.attach_callB hn hdf fun w s0 s1 mg mb fa o pm cd doc a vs ns G Y ho hd hcd hmg hobj hints hlen hbits hg => ?_
  have X := hY w _ Y
  obtain ⟨C, SFa, SFi, NUa, NUi, cT, cL, fl, fdl, Fc, ⟨tT, tL, hT11, hL11, hne⟩, hml, Fu, hb⟩ := F w mg _ X G.T.g
  rw [hnm, hml] at hmg
  cases hmg
  obtain ⟨Pt, t1, t2⟩ := tab_of X Fc.dT hT G.T.tab
  obtain ⟨Pl, l1, l2⟩ := tab_of X Fc.dL hL G.T.tab
  have hP : Pt ≠ Pl := fun z => hne ((hT11.same X t2).trans (z.trans (hL11.same X l2).symm))
  refine law_callTs (cs := [(cT, Pt), (cL, Pl)]) (sp := spF (K w.params) (fsLaw Pt Pl)) (CX := CX0) (k := 14) X G.T.g G.T.b G.T.builtins G.T.nolimit hg (fun p hp => ?_) (fun p hp => ?_) (fun p hp => ?_) G.T.bmain hobj hints (Nat.le_trans hlen (by rw [sizeLine_eq]; decide)) ⟨rfl, by decide, by decide⟩ (fun base _ _ TB => Fc.law (TB (cT, Pt) (by simp)) (TB (cL, Pl) (by simp)) Fu) hb (fun H hH hS => law_start hlen hP (hH (cT, Pt) (by simp)) (hH (cL, Pl) (by simp)) hS) fun _ _ _ z => z
  · simp only [List.mem_cons, List.not_mem_nil, or_false] at hp
    rcases hp with rfl | rfl
    · exact t1
    · exact l1
  · simp only [List.mem_cons, List.not_mem_nil, or_false] at hp
    rcases hp with rfl | rfl
    · exact bares_no (hB w) X t1
    · exact bares_no (hB w) X l1
  · simp only [List.mem_cons, List.not_mem_nil, or_false] at hp
    rcases hp with rfl | rfl
    · exact t2
    · exact l2
end K87
end

section
set_option Elab.async false
set_option linter.all false
set_option maxRecDepth 100000
set_option maxHeartbeats 1100000
set_option autoImplicit false
/-! The facts of the classes, from what k_is finds. -/
namespace K87
open PySem PySem.Spec PyProof.Rows L2 K87M LamX
section
variable {K : PySem.W.Frag} {h : Heap} {mg : Str → Option Value} {C : Addr} {x qual : Str} {i : Nat} {ps : List Str} {f p : Addr} {oc kV doc pm cd ct : Value} {od an : Option Addr} {sl : Array (Option Value)}
theorem g_ref (X : K.In h) (G : h.Ns mainGlobals mg) (a : PySem.W.nsIn K mainGlobals x = some (some (.ref C))) : mg x = some (.ref C) := PySem.W.mg_of X G a
theorem g_str {z : Str} {t : Tok} (X : K.In h) (G : h.Ns mainGlobals mg) (a : PySem.W.nsIn K mainGlobals x = some (some (.str z t))) : ∃ t, mg x = some (.str z t) := ⟨t, PySem.W.mg_of X G a⟩
theorem g_int {z : Int} {t : Tok} (X : K.In h) (G : h.Ns mainGlobals mg) (a : PySem.W.nsIn K mainGlobals x = some (some (.int z t))) : ∃ t, mg x = some (.int z t) := ⟨t, PySem.W.mg_of X G a⟩
theorem bl_mk (X : K.In h) (G : h.Ns mainGlobals mg) (z1 : PySem.W.nsIn K mainGlobals "isinstance" = some none) (z2 : PySem.W.nsIn K mainGlobals "len" = some none) (z3 : PySem.W.nsIn K mainGlobals "all" = some none) (z4 : PySem.W.nsIn K mainGlobals "sum" = some none)
    (z5 : PySem.W.nsIn K mainGlobals "min" = some none) (z6 : PySem.W.nsIn K mainGlobals "max" = some none) (z7 : PySem.W.nsIn K mainGlobals "abs" = some none) (z8 : PySem.W.nsIn K mainGlobals "zip" = some none) (z9 : PySem.W.nsIn K mainGlobals "range" = some none) (y1 : PySem.W.nsIn K mainGlobals "enumerate" = some none)
    (y2 : PySem.W.nsIn K mainGlobals "sorted" = some none) (y3 : PySem.W.nsIn K mainGlobals "list" = some none) (y4 : PySem.W.nsIn K mainGlobals "tuple" = some none) (y5 : PySem.W.nsIn K mainGlobals "int" = some none) (y6 : PySem.W.nsIn K mainGlobals "bool" = some none) (y7 : PySem.W.nsIn K mainGlobals "str" = some none) : Bl mg :=
  ⟨PySem.W.mg_none_of X G z1, PySem.W.mg_none_of X G z2, PySem.W.mg_none_of X G z3, PySem.W.mg_none_of X G z4, PySem.W.mg_none_of X G z5, PySem.W.mg_none_of X G z6, PySem.W.mg_none_of X G z7, PySem.W.mg_none_of X G z8, PySem.W.mg_none_of X G z9,
    PySem.W.mg_none_of X G y1, PySem.W.mg_none_of X G y2, PySem.W.mg_none_of X G y3, PySem.W.mg_none_of X G y4, PySem.W.mg_none_of X G y5, PySem.W.mg_none_of X G y6, PySem.W.mg_none_of X G y7⟩
theorem iden_mk {aI a1 a2 : Addr} {t : Tok} {od1 od2 : Option Addr} {its i1 i2 : Array Value} {n n1 n2 : Nat} {s1 s2 : Array (Option Value)} (X : K.In h) (G : h.Ns mainGlobals mg) (a : PySem.W.nsIn K mainGlobals "IDENTITY" = some (some (.ref aI)))
    (l : K.lookup aI = some ⟨.type "tuple", od, .seq its n, sl⟩) (e : its.toList = [.ref a1, .int 0 t, .ref a2]) (l1 : K.lookup a1 = some ⟨.type "tuple", od1, .seq i1 n1, s1⟩) (e1 : i1.toList = []) (l2 : K.lookup a2 = some ⟨.type "tuple", od2, .seq i2 n2, s2⟩) (e2 : i2.toList = []) :
    ∃ aI, mg "IDENTITY" = some (.ref aI) ∧ ∀ G, Dp K G (.ref aI) (effD [] 0 []) := by
  refine ⟨aI, PySem.W.mg_of X G a, fun G => ?_⟩
  have nil : ∀ {b : Addr} {ob : Option Addr} {ib : Array Value} {nb : Nat} {sb : Array (Option Value)}, K.lookup b = some ⟨.type "tuple", ob, .seq ib nb, sb⟩ → ib.toList = [] → Dp K G (.ref b) (.tuple []) := fun {b ob ib nb sb} q z =>
    .tup (xs := []) (.inr ⟨_, ib, nb, q, rfl, rfl, by rw [← Array.length_toList, z]; exact Nat.zero_le _, by rw [z]; exact .nil⟩) .nil
  refine .tup (xs := [.ref a1, .int 0, .ref a2]) (.inr ⟨_, its, n, l, rfl, rfl, by rw [← Array.length_toList, e, sizeLine_eq]; exact (by decide : 3 ≤ 16777216), by rw [e]; exact .cons rfl (.cons ⟨t, rfl⟩ (.cons rfl .nil))⟩) (.cons (nil l1 e1) (.cons (.int 0) (.cons (nil l2 e2) .nil)))
theorem cls_mk (X : K.In h) (g : mg x = some (.ref C)) (a : PySem.W.plainGet K C Str.empty = true) (b : PySem.W.hasDictIn K C = true) (c : PySem.W.plainOver K C = true) (d : PySem.W.findIn K (.ref C) "__setattr__" = some (some (.builtin "object.__setattr__"))) : Cls K C := ⟨a, b, c, d⟩
theorem sesC_mk (c : Cls K C) (a : PySem.W.findIn K (.ref C) "first" = some none) (b : PySem.W.findIn K (.ref C) "present" = some none) (d : PySem.W.findIn K (.ref C) "pairs" = some none) (e : PySem.W.findIn K (.ref C) "limit" = some none) : SesC K C := ⟨c, a, b, d, e⟩
theorem isiC_mk (c : Cls K C) (a : PySem.W.findIn K (.ref C) "__class__" = some (some (.builtin "object.__class__"))) (b : PySem.W.specialIn K (.builtin "object.__class__") "__get__" = some (some (.builtin "getset_descriptor.__get__")))
    (d : PySem.W.takesIn K (.builtin "object.__class__") = some true) (e : PySem.W.mroIn K C (.type "object") = some true) : IsiC K C := ⟨c, a, b, d, e⟩
theorem met_mk (c : Cls K C)
    (hb : ∀ (kV doc pm : Value) (an : Option Addr) (cdv ct : Value) (us : List Value), us.length = ps.length → bindArgs (PySem.W.fnOf x qual (C8.fnArgs (mth i)) (C8.fnBody (mth i)) (C8.fnScope (mth i)) .none kV doc pm an cdv ct) ⟨us, []⟩ = pure (ps.zip us))
    (a : PySem.W.findIn K (.ref C) x = some (some (.ref f))) (b : PySem.W.isFn K (.ref f) = true) (k : PySem.W.keepIn K (.ref f) = true)
    (l : K.lookup f = some ⟨oc, od, .func (PySem.W.fnOf x qual (C8.fnArgs (mth i)) (C8.fnBody (mth i)) (C8.fnScope (mth i)) .none kV doc pm an cd ct), sl⟩) (q : PySem.W.codeIn K cd qual = true) : ∃ f, Meth K C x f ∧ Fn K x qual i ps f := ⟨f, ⟨a, b, k⟩, fn_mk hb l q⟩
theorem metS_mk (c : Cls K C) (a : PySem.W.findIn K (.ref C) x = some (some (.ref f))) (b : PySem.W.isFn K (.ref f) = true) (k : PySem.W.keepIn K (.ref f) = true)
    (l : K.lookup f = some ⟨oc, od, .func (PySem.W.fnOf x qual (C8.fnArgs (mth i)) (C8.fnBody (mth i)) (C8.fnScope (mth i)) .none kV doc pm an cd ct), sl⟩) (q : PySem.W.codeIn K cd qual = true) : ∃ f, Meth K C x f ∧ FnS K x qual i f := ⟨f, ⟨a, b, k⟩, fnS_mk l q⟩
theorem metB_mk (c : Cls K C) (hc : PySem.W.copiedNames.contains x = false) (a : PySem.W.findIn K (.ref C) x = some (some (.ref f))) (b : PySem.W.isFn K (.ref f) = true) (k : PySem.W.keepIn K (.ref f) = true) (g : PySem.W.specialIn K (.ref f) "__get__" = some (some (.builtin "function.__get__"))) (t : PySem.W.takesIn K (.ref f) = some false) (n : PySem.W.fnIn K f = true)
    (l : K.lookup f = some ⟨oc, od, .func (PySem.W.fnOf x qual (C8.fnArgs (mth i)) (C8.fnBody (mth i)) (C8.fnScope (mth i)) .none kV doc pm an cd ct), sl⟩) (q : PySem.W.codeIn K cd qual = true) : ∃ f, BMeth K C x f ∧ FnS K x qual i f := ⟨f, ⟨⟨a, b, k⟩, g, t, hc, n⟩, fnS_mk l q⟩
theorem ini_mk (c : Cls K C)
    (hb : ∀ (kV doc pm : Value) (an : Option Addr) (cdv ct : Value) (us : List Value), us.length = ps.length → bindArgs (PySem.W.fnOf "__init__" qual (C8.fnArgs (mth i)) (C8.fnBody (mth i)) (C8.fnScope (mth i)) .none kV doc pm an cdv ct) ⟨us, []⟩ = pure (ps.zip us))
    (a : PySem.W.findIn K (.ref C) "__init__" = some (some (.ref f))) (b : PySem.W.isFn K (.ref f) = true) (k : PySem.W.keepIn K (.ref C) = true) (n : PySem.W.makesIn K C = true)
    (l : K.lookup f = some ⟨oc, od, .func (PySem.W.fnOf "__init__" qual (C8.fnArgs (mth i)) (C8.fnBody (mth i)) (C8.fnScope (mth i)) .none kV doc pm an cd ct), sl⟩) (q : PySem.W.codeIn K cd qual = true) : ∃ f, Mk K C f ∧ Fn K "__init__" qual i ps f := ⟨f, ⟨n, a, b, k⟩, fn_mk hb l q⟩
theorem spc_mk (c : Cls K C)
    (hb : ∀ (kV doc pm : Value) (an : Option Addr) (cdv ct : Value) (us : List Value), us.length = ps.length → bindArgs (PySem.W.fnOf x qual (C8.fnArgs (mth i)) (C8.fnBody (mth i)) (C8.fnScope (mth i)) .none kV doc pm an cdv ct) ⟨us, []⟩ = pure (ps.zip us))
    (a : PySem.W.findIn K (.ref C) x = some (some (.ref f))) (b : PySem.W.isFn K (.ref f) = true)
    (l : K.lookup f = some ⟨oc, od, .func (PySem.W.fnOf x qual (C8.fnArgs (mth i)) (C8.fnBody (mth i)) (C8.fnScope (mth i)) .none kV doc pm an cd ct), sl⟩) (q : PySem.W.codeIn K cd qual = true) : ∃ f, PySem.W.findIn K (.ref C) x = some (some (.ref f)) ∧ PySem.W.isFn K (.ref f) = true ∧ Fn K x qual i ps f := ⟨f, a, b, fn_mk hb l q⟩
theorem prp_mk {rest : List Value} (c : Cls K C)
    (hb : ∀ (kV doc pm : Value) (an : Option Addr) (cdv ct : Value) (us : List Value), us.length = ps.length → bindArgs (PySem.W.fnOf x qual (C8.fnArgs (mth i)) (C8.fnBody (mth i)) (C8.fnScope (mth i)) .none kV doc pm an cdv ct) ⟨us, []⟩ = pure (ps.zip us))
    (a : PySem.W.findIn K (.ref C) x = some (some (.ref p))) (g : PySem.W.specialIn K (.ref p) "__get__" = some (some (.builtin "property.__get__"))) (t : PySem.W.takesIn K (.ref p) = some true) (r : PySem.W.recIn K p "property" = some (.ref f :: rest))
    (l : K.lookup f = some ⟨oc, od, .func (PySem.W.fnOf x qual (C8.fnArgs (mth i)) (C8.fnBody (mth i)) (C8.fnScope (mth i)) .none kV doc pm an cd ct), sl⟩) (q : PySem.W.codeIn K cd qual = true) : ∃ p f, PropOf K C x p f ∧ Fn K x qual i ps f := ⟨p, f, ⟨a, g, t, ⟨rest, r⟩⟩, fn_mk hb l q⟩
theorem cme_mk {rest : List Value} (c : Cls K C)
    (hb : ∀ (kV doc pm : Value) (an : Option Addr) (cdv ct : Value) (us : List Value), us.length = ps.length → bindArgs (PySem.W.fnOf x qual (C8.fnArgs (mth i)) (C8.fnBody (mth i)) (C8.fnScope (mth i)) .none kV doc pm an cdv ct) ⟨us, []⟩ = pure (ps.zip us))
    (m : PySem.W.readsIn K C (.type "type") = true) (g : PySem.W.specialIn K (.ref C) "__getattribute__" = some (some (.builtin "type.__getattribute__"))) (a : PySem.W.findCls K (.ref C) (.type "type") x = some (.get (.builtin "classmethod.__get__") (.ref p) .none (.ref C))) (r : PySem.W.recIn K p "classmethod" = some (.ref f :: rest)) (n : PySem.W.fnIn K f = true)
    (l : K.lookup f = some ⟨oc, od, .func (PySem.W.fnOf x qual (C8.fnArgs (mth i)) (C8.fnBody (mth i)) (C8.fnScope (mth i)) .none kV doc pm an cd ct), sl⟩) (q : PySem.W.codeIn K cd qual = true) : ∃ mc p f, ClX.CRead K C mc ∧ ClX.CMet K C mc x p f ∧ Fn K x qual i ps f := ⟨_, p, f, ⟨m, g⟩, ⟨a, ⟨rest, r⟩, n⟩, fn_mk hb l q⟩
theorem oec_mk {fl q : Str} {newId : String} {tl : List Value} {fI : Addr} {nm qn N bs sn sub ab col dd k0 k1 k2 k3 k5} {p1 p2 q1 q2 q3 q4 : Pos} (X : K.In h) (G : h.Ns mainGlobals mg) (a : PySem.W.nsIn K mainGlobals x = some (some (.ref C)))
    (e : K.lookup C = some (excClassObj nm qn C N bs tl true sn sub ab col dd k0 k1 k2 k3 k5 newId)) (s : PySem.W.findIn K (.ref C) "__setattr__" = some (some (.builtin "object.__setattr__"))) (n : PySem.W.findIn K (.ref C) fl = some none) (j : PySem.W.findIn K (.ref C) "__init__" = some (some (.ref fI)))
    (t : PySem.W.typeIn K (.ref fI) = some (.type "function")) (k : PySem.W.keepIn K (.ref C) = true) (b : PySem.W.subIn K (.ref C) (.type "BaseException") = some true) (y : PySem.W.typeIn K (.ref C) = some (.type "type"))
    (l : K.lookup fI = some ⟨oc, od, .func (PySem.W.fnOf "__init__" q (oeArgs fl p1 p2) (oeBody fl q1 q2 q3 q4) (oeScope fl) .none .none doc pm an cd ct), sl⟩) (c : PySem.W.codeIn K cd q = true) : OEc K mg x fl q newId tl C fI :=
  ⟨PySem.W.mg_of X G a, ⟨nm, qn, N, bs, sn, sub, ab, col, dd, k0, k1, k2, k3, k5, e⟩, s, n, j, t, k, b, y, ⟨oc, od, doc, pm, an, cd, ct, sl, p1, p2, q1, q2, q3, q4, l, c⟩⟩
theorem xfc_mk {fl q : Str} {newId : String} {tl : List Value} {fI : Addr} (o : OEc K mg x fl q newId tl C fI) (a : PySem.W.findIn K (.ref C) "__getattribute__" = some (some (.builtin "BaseException.__getattribute__"))) (b : PySem.W.findIn K (.ref C) "__getattr__" = some none) (d : PySem.W.hasDictIn K C = true) : XfC K C := ⟨a, b, o.exC, d⟩
theorem sf_mk {fI : Addr} (o : OEc K mg "StepFailed" "index" "StepFailed.__init__" "RuntimeError.__new__" tlR C fI) (a : PySem.W.subIn K (.ref C) (.type "StopIteration") = some false) : SF K mg C fI := ⟨o, a⟩
theorem hd_mk {N fI gI : Addr} (o : OEc K mg "StepFailed" "index" "StepFailed.__init__" "RuntimeError.__new__" tlR C fI) (n : OEc K mg "NothingToUndo" "user" "NothingToUndo.__init__" "LookupError.__new__" tlL N gI) (x1 : XfC K C) (x2 : XfC K N)
    (a : PySem.W.exmOne K (.ref C) (.ref C) = some true) (b : PySem.W.exmOne K (.ref N) (.ref C) = some false) (c : PySem.W.exmOne K (.ref N) (.ref N) = some true) : HdC K mg C N := ⟨o.gC, n.gC, a, b, c, x1, x2, o.noN, n.noN⟩
theorem at_mk {c : Addr} {vs : Array Value} (d : DfC K mg x i ps c) (l : K.lookup c = some ⟨oc, od, .fields vs, sl⟩) (e : vs[11]? = some (.ref p)) : At11 K c p := ⟨oc, od, vs, sl, l, e⟩
theorem law_mk (X : K.In h) (G : h.Ns mainGlobals mg) (a : PySem.W.nsIn K mainGlobals "law" = some (some (.ref f))) (l : K.lookup f = some ⟨oc, od, .func (PySem.W.fnOf "law" "law" (C8.fnArgs (top 68)) (C8.fnBody (top 68)) (C8.fnScope (top 68)) .none kV doc pm an cd ct), sl⟩) (c : PySem.W.codeIn K cd "law" = true) :
    ∃ (fl : Addr) (fdl : FuncData), mg "law" = some (.ref fl) ∧ C8.Fun K "law" "law" (top 68) fl fdl ∧ ∀ (s : Shared) (u : Value), BindsTo s fdl ⟨[u], []⟩ [("_law_script", u)] :=
  ⟨f, _, PySem.W.mg_of X G a, ⟨⟨oc, od, .none, kV, doc, pm, an, cd, ct, sl, rfl, l, c⟩⟩, fun s u => .of_eq rfl⟩
end
end K87
end

section
set_option Elab.async false
set_option linter.all false
set_option maxRecDepth 100000
set_option maxHeartbeats 0
open PyProof.Rows PySem PySem.W
open_top k87head for PySem.Challenge.rw_skylineeffect_k87_whole_sessions_of_many
end

section
set_option Elab.async false
set_option linter.all false
set_option maxRecDepth 100000
set_option maxHeartbeats 0
open PyProof.Rows PySem PySem.W
theorem PySem.Challenge.cw_skylineeffect_k87_whole_sessions_of_many_holds : PySem.Challenge.rw_skylineeffect_k87_whole_sessions_of_many.Holds := by
  refine k87head ?_
  k_fill
  refine K87.k87_walk (l := PySem.Challenge.rw_skylineeffect_k87_whole_sessions_of_many) rfl rfl rfl ?hT ?hL (fun w h Y => PySem.W.km_in_of Y) ?hB ?F
  case hT => kernel_rfl
  case hL => kernel_rfl
  case hB => intro w; kernel_rfl
  case F =>
    intro w mg h KX G
    refine' K87.pass (K87.df_mk (x := "is_integer") (i := 10) (ps := ["value"]) KX G (fun _ _ _ _ _ _ us hl => match us, hl with | [_], _ => rfl) ?d10a ?d10l ?d10c ?d10k) fun d10 => ?d10z
    (case d10a => k_is); (case d10l => k_is); (case d10c => k_is); (case d10k => k_is)
    refine' K87.pass (K87.df_mk (x := "is_count") (i := 11) (ps := ["value"]) KX G (fun _ _ _ _ _ _ us hl => match us, hl with | [_], _ => rfl) ?d11a ?d11l ?d11c ?d11k) fun d11 => ?d11z
    (case d11a => k_is); (case d11l => k_is); (case d11c => k_is); (case d11k => k_is)
    refine' K87.pass (K87.df_mk (x := "is_run") (i := 12) (ps := ["value"]) KX G (fun _ _ _ _ _ _ us hl => match us, hl with | [_], _ => rfl) ?d12a ?d12l ?d12c ?d12k) fun d12 => ?d12z
    (case d12a => k_is); (case d12l => k_is); (case d12c => k_is); (case d12k => k_is)
    refine' K87.pass (K87.df_mk (x := "size_of") (i := 15) (ps := ["stack"]) KX G (fun _ _ _ _ _ _ us hl => match us, hl with | [_], _ => rfl) ?d15a ?d15l ?d15c ?d15k) fun d15 => ?d15z
    (case d15a => k_is); (case d15l => k_is); (case d15c => k_is); (case d15k => k_is)
    refine' K87.pass (K87.df_mk (x := "count_below") (i := 16) (ps := ["stack", "number"]) KX G (fun _ _ _ _ _ _ us hl => match us, hl with | [_, _], _ => rfl) ?d16a ?d16l ?d16c ?d16k) fun d16 => ?d16z
    (case d16a => k_is); (case d16l => k_is); (case d16c => k_is); (case d16k => k_is)
    refine' K87.pass (K87.df_mk (x := "popped") (i := 17) (ps := ["stack", "count"]) KX G (fun _ _ _ _ _ _ us hl => match us, hl with | [_, _], _ => rfl) ?d17a ?d17l ?d17c ?d17k) fun d17 => ?d17z
    (case d17a => k_is); (case d17l => k_is); (case d17c => k_is); (case d17k => k_is)
    refine' K87.pass (K87.df_mk (x := "joined_runs") (i := 18) (ps := ["stack", "other"]) KX G (fun _ _ _ _ _ _ us hl => match us, hl with | [_, _], _ => rfl) ?d18a ?d18l ?d18c ?d18k) fun d18 => ?d18z
    (case d18a => k_is); (case d18l => k_is); (case d18c => k_is); (case d18k => k_is)
    refine' K87.pass (K87.df_mk (x := "pushed") (i := 19) (ps := ["stack", "number", "count"]) KX G (fun _ _ _ _ _ _ us hl => match us, hl with | [_, _, _], _ => rfl) ?d19a ?d19l ?d19c ?d19k) fun d19 => ?d19z
    (case d19a => k_is); (case d19l => k_is); (case d19c => k_is); (case d19k => k_is)
    refine' K87.pass (K87.df_mk (x := "is_stack") (i := 13) (ps := ["value"]) KX G (fun _ _ _ _ _ _ us hl => match us, hl with | [_], _ => rfl) ?d13a ?d13l ?d13c ?d13k) fun d13 => ?d13z
    (case d13a => k_is); (case d13l => k_is); (case d13c => k_is); (case d13k => k_is)
    refine' K87.pass (K87.df_mk (x := "check_stack") (i := 14) (ps := ["value"]) KX G (fun _ _ _ _ _ _ us hl => match us, hl with | [_], _ => rfl) ?d14a ?d14l ?d14c ?d14k) fun d14 => ?d14z
    (case d14a => k_is); (case d14l => k_is); (case d14c => k_is); (case d14k => k_is)
    refine' K87.pass (K87.df_mk (x := "is_step") (i := 22) (ps := ["value"]) KX G (fun _ _ _ _ _ _ us hl => match us, hl with | [_], _ => rfl) ?d22a ?d22l ?d22c ?d22k) fun d22 => ?d22z
    (case d22a => k_is); (case d22l => k_is); (case d22c => k_is); (case d22k => k_is)
    refine' K87.pass (K87.df_mk (x := "check_sequence") (i := 23) (ps := ["value"]) KX G (fun _ _ _ _ _ _ us hl => match us, hl with | [_], _ => rfl) ?d23a ?d23l ?d23c ?d23k) fun d23 => ?d23z
    (case d23a => k_is); (case d23l => k_is); (case d23c => k_is); (case d23k => k_is)
    refine' K87.pass (K87.df_mk (x := "after_step") (i := 24) (ps := ["stack", "step"]) KX G (fun _ _ _ _ _ _ us hl => match us, hl with | [_, _], _ => rfl) ?d24a ?d24l ?d24c ?d24k) fun d24 => ?d24z
    (case d24a => k_is); (case d24l => k_is); (case d24c => k_is); (case d24k => k_is)
    refine' K87.pass (K87.df_mk (x := "is_pair") (i := 30) (ps := ["value"]) KX G (fun _ _ _ _ _ _ us hl => match us, hl with | [_], _ => rfl) ?d30a ?d30l ?d30c ?d30k) fun d30 => ?d30z
    (case d30a => k_is); (case d30l => k_is); (case d30c => k_is); (case d30k => k_is)
    refine' K87.pass (K87.df_mk (x := "are_pairs") (i := 31) (ps := ["value"]) KX G (fun _ _ _ _ _ _ us hl => match us, hl with | [_], _ => rfl) ?d31a ?d31l ?d31c ?d31k) fun d31 => ?d31z
    (case d31a => k_is); (case d31l => k_is); (case d31c => k_is); (case d31k => k_is)
    refine' K87.pass (K87.df_mk (x := "undominated") (i := 34) (ps := ["pairs"]) KX G (fun _ _ _ _ _ _ us hl => match us, hl with | [_], _ => rfl) ?d34a ?d34l ?d34c ?d34k) fun d34 => ?d34z
    (case d34a => k_is); (case d34l => k_is); (case d34c => k_is); (case d34k => k_is)
    refine' K87.pass (K87.df_mk (x := "shifted") (i := 35) (ps := ["pairs", "by"]) KX G (fun _ _ _ _ _ _ us hl => match us, hl with | [_, _], _ => rfl) ?d35a ?d35l ?d35c ?d35k) fun d35 => ?d35z
    (case d35a => k_is); (case d35l => k_is); (case d35c => k_is); (case d35k => k_is)
    refine' K87.pass (K87.df_mk (x := "passing") (i := 36) (ps := ["pairs", "new"]) KX G (fun _ _ _ _ _ _ us hl => match us, hl with | [_, _], _ => rfl) ?d36a ?d36l ?d36c ?d36k) fun d36 => ?d36z
    (case d36a => k_is); (case d36l => k_is); (case d36c => k_is); (case d36k => k_is)
    refine' K87.pass (K87.df_mk (x := "taken") (i := 37) (ps := ["effect", "new"]) KX G (fun _ _ _ _ _ _ us hl => match us, hl with | [_, _], _ => rfl) ?d37a ?d37l ?d37c ?d37k) fun d37 => ?d37z
    (case d37a => k_is); (case d37l => k_is); (case d37c => k_is); (case d37k => k_is)
    refine' K87.pass (K87.df_mk (x := "joined") (i := 38) (ps := ["first", "second"]) KX G (fun _ _ _ _ _ _ us hl => match us, hl with | [_, _], _ => rfl) ?d38a ?d38l ?d38c ?d38k) fun d38 => ?d38z
    (case d38a => k_is); (case d38l => k_is); (case d38c => k_is); (case d38k => k_is)
    refine' K87.pass (K87.df_mk (x := "effect_of_step") (i := 39) (ps := ["step"]) KX G (fun _ _ _ _ _ _ us hl => match us, hl with | [_], _ => rfl) ?d39a ?d39l ?d39c ?d39k) fun d39 => ?d39z
    (case d39a => k_is); (case d39l => k_is); (case d39c => k_is); (case d39k => k_is)
    refine' K87.pass (K87.df_mk (x := "effect_of_valid") (i := 40) (ps := ["sequence"]) KX G (fun _ _ _ _ _ _ us hl => match us, hl with | [_], _ => rfl) ?d40a ?d40l ?d40c ?d40k) fun d40 => ?d40z
    (case d40a => k_is); (case d40l => k_is); (case d40c => k_is); (case d40k => k_is)
    refine' K87.pass (K87.df_mk (x := "effect_of") (i := 41) (ps := ["sequence"]) KX G (fun _ _ _ _ _ _ us hl => match us, hl with | [_], _ => rfl) ?d41a ?d41l ?d41c ?d41k) fun d41 => ?d41z
    (case d41a => k_is); (case d41l => k_is); (case d41c => k_is); (case d41k => k_is)
    refine' K87.pass (K87.df_mk (x := "is_effect") (i := 32) (ps := ["value"]) KX G (fun _ _ _ _ _ _ us hl => match us, hl with | [_], _ => rfl) ?d32a ?d32l ?d32c ?d32k) fun d32 => ?d32z
    (case d32a => k_is); (case d32l => k_is); (case d32c => k_is); (case d32k => k_is)
    refine' K87.pass (K87.df_mk (x := "check_effect") (i := 33) (ps := ["value"]) KX G (fun _ _ _ _ _ _ us hl => match us, hl with | [_], _ => rfl) ?d33a ?d33l ?d33c ?d33k) fun d33 => ?d33z
    (case d33a => k_is); (case d33l => k_is); (case d33c => k_is); (case d33k => k_is)
    refine' K87.pass (K87.df_mk (x := "removed_by") (i := 42) (ps := ["effect", "stack"]) KX G (fun _ _ _ _ _ _ us hl => match us, hl with | [_, _], _ => rfl) ?d42a ?d42l ?d42c ?d42k) fun d42 => ?d42z
    (case d42a => k_is); (case d42l => k_is); (case d42c => k_is); (case d42k => k_is)
    refine' K87.pass (K87.df_mk (x := "removed") (i := 43) (ps := ["effect", "stack"]) KX G (fun _ _ _ _ _ _ us hl => match us, hl with | [_, _], _ => rfl) ?d43a ?d43l ?d43c ?d43k) fun d43 => ?d43z
    (case d43a => k_is); (case d43l => k_is); (case d43c => k_is); (case d43k => k_is)
    refine' K87.pass (K87.df_mk (x := "applied") (i := 44) (ps := ["effect", "stack"]) KX G (fun _ _ _ _ _ _ us hl => match us, hl with | [_, _], _ => rfl) ?d44a ?d44l ?d44c ?d44k) fun d44 => ?d44z
    (case d44a => k_is); (case d44l => k_is); (case d44c => k_is); (case d44k => k_is)
    refine' K87.pass (K87.df_mk (x := "is_name") (i := 48) (ps := ["value"]) KX G (fun _ _ _ _ _ _ us hl => match us, hl with | [_], _ => rfl) ?d48a ?d48l ?d48c ?d48k) fun d48 => ?d48z
    (case d48a => k_is); (case d48l => k_is); (case d48c => k_is); (case d48k => k_is)
    refine' K87.pass (K87.df_mk (x := "check_user") (i := 49) (ps := ["user"]) KX G (fun _ _ _ _ _ _ us hl => match us, hl with | [_], _ => rfl) ?d49a ?d49l ?d49c ?d49k) fun d49 => ?d49z
    (case d49a => k_is); (case d49l => k_is); (case d49c => k_is); (case d49k => k_is)
    refine' K87.pass (K87.df_mk (x := "_law_pool") (i := 52) (ps := ["_law_script", "_law_k"]) KX G (fun _ _ _ _ _ _ us hl => match us, hl with | [_, _], _ => rfl) ?d52a ?d52l ?d52c ?d52k) fun d52 => ?d52z
    (case d52a => k_is); (case d52l => k_is); (case d52c => k_is); (case d52k => k_is)
    refine' K87.pass (K87.df_mk (x := "_law_take") (i := 53) (ps := ["_law_pool_here", "_law_sides"]) KX G (fun _ _ _ _ _ _ us hl => match us, hl with | [_, _], _ => rfl) ?d53a ?d53l ?d53c ?d53k) fun d53 => ?d53z
    (case d53a => k_is); (case d53l => k_is); (case d53c => k_is); (case d53k => k_is)
    refine' K87.pass (K87.df_mk (x := "_law_numbers") (i := 54) (ps := ["_law_pool_here", "_law_many"]) KX G (fun _ _ _ _ _ _ us hl => match us, hl with | [_, _], _ => rfl) ?d54a ?d54l ?d54c ?d54k) fun d54 => ?d54z
    (case d54a => k_is); (case d54l => k_is); (case d54c => k_is); (case d54k => k_is)
    refine' K87.pass (K87.df_mk (x := "_law_steps") (i := 55) (ps := ["_law_pool_here", "_law_numbers_here", "_law_many", "_law_most"]) KX G (fun _ _ _ _ _ _ us hl => match us, hl with | [_, _, _, _], _ => rfl) ?d55a ?d55l ?d55c ?d55k) fun d55 => ?d55z
    (case d55a => k_is); (case d55l => k_is); (case d55c => k_is); (case d55k => k_is)
    refine' K87.pass (K87.df_mk (x := "_law_runs") (i := 56) (ps := ["_law_heap_here"]) KX G (fun _ _ _ _ _ _ us hl => match us, hl with | [_], _ => rfl) ?d56a ?d56l ?d56c ?d56k) fun d56 => ?d56z
    (case d56a => k_is); (case d56l => k_is); (case d56c => k_is); (case d56k => k_is)
    refine' K87.pass (K87.df_mk (x := "_law_heap") (i := 57) (ps := ["_law_pool_here", "_law_numbers_here", "_law_most"]) KX G (fun _ _ _ _ _ _ us hl => match us, hl with | [_, _, _], _ => rfl) ?d57a ?d57l ?d57c ?d57k) fun d57 => ?d57z
    (case d57a => k_is); (case d57l => k_is); (case d57c => k_is); (case d57k => k_is)
    refine' K87.pass (K87.df_mk (x := "_law_done") (i := 58) (ps := ["_law_heap_here", "_law_step"]) KX G (fun _ _ _ _ _ _ us hl => match us, hl with | [_, _], _ => rfl) ?d58a ?d58l ?d58c ?d58k) fun d58 => ?d58z
    (case d58a => k_is); (case d58l => k_is); (case d58c => k_is); (case d58k => k_is)
    refine' K87.pass (K87.df_mk (x := "_law_run") (i := 59) (ps := ["_law_heap_here", "_law_steps_here"]) KX G (fun _ _ _ _ _ _ us hl => match us, hl with | [_, _], _ => rfl) ?d59a ?d59l ?d59c ?d59k) fun d59 => ?d59z
    (case d59a => k_is); (case d59l => k_is); (case d59c => k_is); (case d59k => k_is)
    refine' K87.pass (K87.df_mk (x := "_law_effect") (i := 60) (ps := ["_law_steps_here"]) KX G (fun _ _ _ _ _ _ us hl => match us, hl with | [_], _ => rfl) ?d60a ?d60l ?d60c ?d60k) fun d60 => ?d60z
    (case d60a => k_is); (case d60l => k_is); (case d60c => k_is); (case d60k => k_is)
    refine' K87.pass (K87.df_mk (x := "_law_users") (i := 61) (ps := []) KX G (fun _ _ _ _ _ _ us hl => match us, hl with | [], _ => rfl) ?d61a ?d61l ?d61c ?d61k) fun d61 => ?d61z
    (case d61a => k_is); (case d61l => k_is); (case d61c => k_is); (case d61k => k_is)
    refine' K87.pass (K87.df_mk (x := "_law_replay") (i := 63) (ps := ["_law_heap_here", "_law_log"]) KX G (fun _ _ _ _ _ _ us hl => match us, hl with | [_, _], _ => rfl) ?d63a ?d63l ?d63c ?d63k) fun d63 => ?d63z
    (case d63a => k_is); (case d63l => k_is); (case d63c => k_is); (case d63k => k_is)
    refine' K87.pass (K87.df_mk (x := "stacks_after") (i := 25) (ps := ["stack", "sequence"]) KX G (fun _ _ _ _ _ _ us hl => match us, hl with | [_, _], _ => rfl) ?d25a ?d25l ?d25c ?d25k) fun d25 => ?d25z
    (case d25a => k_is); (case d25l => k_is); (case d25c => k_is); (case d25k => k_is)
    refine' K87.pass (K87.df_mk (x := "run_valid") (i := 26) (ps := ["stack", "sequence"]) KX G (fun _ _ _ _ _ _ us hl => match us, hl with | [_, _], _ => rfl) ?d26a ?d26l ?d26c ?d26k) fun d26 => ?d26z
    (case d26a => k_is); (case d26l => k_is); (case d26c => k_is); (case d26k => k_is)
    refine' K87.pass (K87.df_mk (x := "run") (i := 27) (ps := ["stack", "sequence"]) KX G (fun _ _ _ _ _ _ us hl => match us, hl with | [_, _], _ => rfl) ?d27a ?d27l ?d27c ?d27k) fun d27 => ?d27z
    (case d27a => k_is); (case d27l => k_is); (case d27c => k_is); (case d27k => k_is)
    refine' K87.pass (K87.df_mk (x := "_law_heard") (i := 62) (ps := ["_law_call"]) KX G (fun _ _ _ _ _ _ us hl => match us, hl with | [_], _ => rfl) ?d62a ?d62l ?d62c ?d62k) fun d62 => ?d62z
    (case d62a => k_is); (case d62l => k_is); (case d62c => k_is); (case d62k => k_is)
    refine' K87.pass (K87.df_mk (x := "_law_given") (i := 64) (ps := ["_law_session", "_law_user", "_law_steps_here"]) KX G (fun _ _ _ _ _ _ us hl => match us, hl with | [_, _, _], _ => rfl) ?d64a ?d64l ?d64c ?d64k) fun d64 => ?d64z
    (case d64a => k_is); (case d64l => k_is); (case d64c => k_is); (case d64k => k_is)
    refine' K87.pass (K87.df_mk (x := "_law_stands") (i := 66) (ps := ["_law_session", "_law_heap_here", "_law_log"]) KX G (fun _ _ _ _ _ _ us hl => match us, hl with | [_, _, _], _ => rfl) ?d66a ?d66l ?d66c ?d66k) fun d66 => ?d66z
    (case d66a => k_is); (case d66l => k_is); (case d66c => k_is); (case d66k => k_is)
    refine' K87.pass (K87.dfC_mk (x := "_law_turn") (i := 65) (ps := ["_law_pool_here", "_law_session", "_law_heap_here", "_law_log", "_law_numbers_here"]) KX G (fun _ _ _ _ _ _ us hl => match us, hl with | [_, _, _, _, _], _ => rfl) ?dTa ?dTl ?dTc ?dTk) fun dT => ?dTz
    (case dTa => k_is); (case dTl => k_is); (case dTc => k_is); (case dTk => k_is)
    refine' K87.pass (K87.dfC_mk (x := "_law_led_back") (i := 67) (ps := ["_law_session", "_law_heap_here", "_law_log"]) KX G (fun _ _ _ _ _ _ us hl => match us, hl with | [_, _, _], _ => rfl) ?dLa ?dLl ?dLc ?dLk) fun dL => ?dLz
    (case dLa => k_is); (case dLl => k_is); (case dLc => k_is); (case dLk => k_is)
    refine' K87.pass (K87.bl_mk KX G ?blz1 ?blz2 ?blz3 ?blz4 ?blz5 ?blz6 ?blz7 ?blz8 ?blz9 ?bly1 ?bly2 ?bly3 ?bly4 ?bly5 ?bly6 ?bly7) fun bl => ?blz
    (case blz1 => k_is); (case blz2 => k_is); (case blz3 => k_is); (case blz4 => k_is); (case blz5 => k_is); (case blz6 => k_is); (case blz7 => k_is); (case blz8 => k_is); (case blz9 => k_is); (case bly1 => k_is); (case bly2 => k_is); (case bly3 => k_is); (case bly4 => k_is); (case bly5 => k_is); (case bly6 => k_is); (case bly7 => k_is)
    refine' K87.pass (K87.g_str (x := "PUSH") (z := "push") KX G ?pusha) fun push => ?pushz
    (case pusha => k_is)
    refine' K87.pass (K87.iden_mk KX G ?idena ?idenl ?idene ?idenl1 ?idene1 ?idenl2 ?idene2) fun iden => ?idenz
    (case idena => k_is); (case idenl => k_is); (case idene => rfl); (case idenl1 => k_is); (case idene1 => rfl); (case idenl2 => k_is); (case idene2 => rfl)
    refine' K87.pass (K87.g_str (x := "LETTERS") (z := K87.letters) KX G ?letta) fun lett => ?lettz
    (case letta => k_is)
    refine' K87.pass (K87.g_int (x := "MOST_LETTERS") (z := 8) KX G ?mosta) fun most => ?mostz
    (case mosta => k_is)
    refine' K87.pass (K87.g_ref (x := "Session") KX G ?gCa) fun gC => ?gCz
    (case gCa => k_is)
    refine' K87.pass (K87.cls_mk KX gC ?clsa ?clsb ?clsc ?clsd) fun cls => ?clsz
    (case clsa => k_is); (case clsb => k_is); (case clsc => k_is); (case clsd => k_is)
    refine' K87.pass (K87.sesC_mk cls ?sesa ?sesb ?sesd ?sese) fun ses => ?sesz
    (case sesa => k_is); (case sesb => k_is); (case sesd => k_is); (case sese => k_is)
    refine' K87.pass (K87.isiC_mk cls ?isia ?isib ?isid ?isie) fun isi => ?isiz
    (case isia => k_is); (case isib => k_is); (case isid => k_is); (case isie => k_is)
    refine' K87.pass (K87.ini_mk (qual := "Session.__init__") (i := 0) (ps := ["self", "stack"]) cls (fun _ _ _ _ _ _ us hl => match us, hl with | [_, _], _ => rfl) ?m0a ?m0b ?m0k ?m0n ?m0l ?m0q) fun m0 => ?m0z
    (case m0a => k_is); (case m0b => k_is); (case m0k => k_is); (case m0n => k_is); (case m0l => k_is); (case m0q => k_is)
    refine' K87.pass (K87.spc_mk (x := "__len__") (qual := "Session.__len__") (i := 1) (ps := ["self"]) cls (fun _ _ _ _ _ _ us hl => match us, hl with | [_], _ => rfl) ?m1a ?m1b ?m1l ?m1q) fun m1 => ?m1z
    (case m1a => k_is); (case m1b => k_is); (case m1l => k_is); (case m1q => k_is)
    refine' K87.pass (K87.spc_mk (x := "__eq__") (qual := "Session.__eq__") (i := 2) (ps := ["self", "other"]) cls (fun _ _ _ _ _ _ us hl => match us, hl with | [_, _], _ => rfl) ?m2a ?m2b ?m2l ?m2q) fun m2 => ?m2z
    (case m2a => k_is); (case m2b => k_is); (case m2l => k_is); (case m2q => k_is)
    refine' K87.pass (K87.cme_mk (x := "replayed") (qual := "Session.replayed") (i := 3) (ps := ["cls", "stack", "log"]) cls (fun _ _ _ _ _ _ us hl => match us, hl with | [_, _, _], _ => rfl) ?m3m ?m3g ?m3a ?m3r ?m3n ?m3l ?m3q) fun m3 => ?m3z
    (case m3m => k_is); (case m3g => k_is); (case m3a => k_is); (case m3r => k_is); (case m3n => k_is); (case m3l => k_is); (case m3q => k_is)
    refine' K87.pass (K87.prp_mk (x := "stack") (qual := "Session.stack") (i := 5) (ps := ["self"]) cls (fun _ _ _ _ _ _ us hl => match us, hl with | [_], _ => rfl) ?m5a ?m5g ?m5t ?m5r ?m5l ?m5q) fun m5 => ?m5z
    (case m5a => k_is); (case m5g => k_is); (case m5t => k_is); (case m5r => k_is); (case m5l => k_is); (case m5q => k_is)
    refine' K87.pass (K87.met_mk (x := "log") (qual := "Session.log") (i := 6) (ps := ["self"]) cls (fun _ _ _ _ _ _ us hl => match us, hl with | [_], _ => rfl) ?m6a ?m6b ?m6k ?m6l ?m6q) fun m6 => ?m6z
    (case m6a => k_is); (case m6b => k_is); (case m6k => k_is); (case m6l => k_is); (case m6q => k_is)
    refine' K87.pass (K87.met_mk (x := "steps") (qual := "Session.steps") (i := 7) (ps := ["self"]) cls (fun _ _ _ _ _ _ us hl => match us, hl with | [_], _ => rfl) ?m7a ?m7b ?m7k ?m7l ?m7q) fun m7 => ?m7z
    (case m7a => k_is); (case m7b => k_is); (case m7k => k_is); (case m7l => k_is); (case m7q => k_is)
    refine' K87.pass (K87.met_mk (x := "effect") (qual := "Session.effect") (i := 8) (ps := ["self"]) cls (fun _ _ _ _ _ _ us hl => match us, hl with | [_], _ => rfl) ?m8a ?m8b ?m8k ?m8l ?m8q) fun m8 => ?m8z
    (case m8a => k_is); (case m8b => k_is); (case m8k => k_is); (case m8l => k_is); (case m8q => k_is)
    refine' K87.pass (K87.met_mk (x := "undo") (qual := "Session.undo") (i := 11) (ps := ["self", "user"]) cls (fun _ _ _ _ _ _ us hl => match us, hl with | [_, _], _ => rfl) ?m11a ?m11b ?m11k ?m11l ?m11q) fun m11 => ?m11z
    (case m11a => k_is); (case m11b => k_is); (case m11k => k_is); (case m11l => k_is); (case m11q => k_is)
    refine' K87.pass (K87.met_mk (x := "fresh") (qual := "Session.fresh") (i := 12) (ps := ["self"]) cls (fun _ _ _ _ _ _ us hl => match us, hl with | [_], _ => rfl) ?m12a ?m12b ?m12k ?m12l ?m12q) fun m12 => ?m12z
    (case m12a => k_is); (case m12b => k_is); (case m12k => k_is); (case m12l => k_is); (case m12q => k_is)
    refine' K87.pass (K87.met_mk (x := "copy") (qual := "Session.copy") (i := 13) (ps := ["self"]) cls (fun _ _ _ _ _ _ us hl => match us, hl with | [_], _ => rfl) ?m13a ?m13b ?m13k ?m13l ?m13q) fun m13 => ?m13z
    (case m13a => k_is); (case m13b => k_is); (case m13k => k_is); (case m13l => k_is); (case m13q => k_is)
    refine' K87.pass (K87.metB_mk (x := "what_if") (qual := "Session.what_if") (i := 9) cls (by decide +kernel) ?m9a ?m9b ?m9k ?m9g ?m9t ?m9n ?m9l ?m9q) fun m9 => ?m9z
    (case m9a => k_is); (case m9b => k_is); (case m9k => k_is); (case m9g => k_is); (case m9t => k_is); (case m9n => k_is); (case m9l => k_is); (case m9q => k_is)
    refine' K87.pass (K87.metS_mk (x := "do") (qual := "Session.do") (i := 10) cls ?m10a ?m10b ?m10k ?m10l ?m10q) fun m10 => ?m10z
    (case m10a => k_is); (case m10b => k_is); (case m10k => k_is); (case m10l => k_is); (case m10q => k_is)
    refine' K87.pass (K87.oec_mk (x := "StepFailed") (fl := "index") (q := "StepFailed.__init__") (newId := "RuntimeError.__new__") (tl := K87.tlR) KX G ?sfa ?sfe ?sfs ?sfn ?sfj ?sft ?sfk ?sfb ?sfy ?sfl ?sfc) fun sf => ?sfz
    (case sfa => k_is); (case sfe => k_is); (case sfs => k_is); (case sfn => k_is); (case sfj => k_is); (case sft => k_is); (case sfk => k_is); (case sfb => k_is); (case sfy => k_is); (case sfl => k_is); (case sfc => k_is)
    refine' K87.pass (K87.xfc_mk sf ?sfxa ?sfxb ?sfxd) fun sfx => ?sfxz
    (case sfxa => k_is); (case sfxb => k_is); (case sfxd => k_is)
    refine' K87.pass (K87.oec_mk (x := "NothingToUndo") (fl := "user") (q := "NothingToUndo.__init__") (newId := "LookupError.__new__") (tl := K87.tlL) KX G ?nua ?nue ?nus ?nun ?nuj ?nut ?nuk ?nub ?nuy ?nul ?nuc) fun nu => ?nuz
    (case nua => k_is); (case nue => k_is); (case nus => k_is); (case nun => k_is); (case nuj => k_is); (case nut => k_is); (case nuk => k_is); (case nub => k_is); (case nuy => k_is); (case nul => k_is); (case nuc => k_is)
    refine' K87.pass (K87.xfc_mk nu ?nuxa ?nuxb ?nuxd) fun nux => ?nuxz
    (case nuxa => k_is); (case nuxb => k_is); (case nuxd => k_is)
    refine' K87.pass (K87.sf_mk sf ?sfna) fun sfn => ?sfnz
    (case sfna => k_is)
    refine' K87.pass (K87.hd_mk sf nu sfx nux ?hdss ?hdns ?hdnn) fun hd => ?hdz
    (case hdss => kernel_rfl); (case hdns => kernel_rfl); (case hdnn => kernel_rfl)
    refine' K87.pass (K87.at_mk dT ?aTl ?aTe) fun aT => ?aTz
    (case aTl => k_is); (case aTe => rfl)
    refine' K87.pass (K87.at_mk dL ?aLl ?aLe) fun aL => ?aLz
    (case aLl => k_is); (case aLe => rfl)
    refine' K87.pass (K87.law_mk KX G ?lwa ?lwl ?lwc) fun lw => ?lwz
    (case lwa => k_is); (case lwl => k_is); (case lwc => k_is)
    obtain ⟨fl, fdl, w1, w2, w3⟩ := lw
    exact ⟨_, _, _, _, _, _, _, fl, fdl, ⟨bl, push, iden, lett, most, gC, ses, isi, hd, sfn, nu, m0, m1, m2, m3, m5, m6, m7, m8, m9, m10, m11, m12, m13, d10, d11, d12, d15, d16, d17, d18, d19, d13, d14, d22, d23, d24, d30, d31, d34, d35, d36, d37, d38, d39, d40, d41, d32, d33, d42, d43, d44, d48, d49, d52, d53, d54, d55, d56, d57, d58, d59, d60, d61, d63, d25, d26, d27, d62, d64, d66, dT, dL⟩, ⟨_, _, aT, aL, by decide⟩, w1, w2, w3⟩
end
