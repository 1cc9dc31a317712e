import PyProof.Rows.All
import Wide.All
import OpenK.AllK
import Wide.FinOn
import HandS.ForExc
import HandS.ForMost
import HandS.Wide
import HandS.EndBits
import HandS.Codes
import HandS.Deep
import HandS.TupAny
import HandS.TupMul
import HandS.TupLe
import HandS.Flow
import HandS.Conv
import HandS.Style
import HandS.IsInst
import KE.SortData
import KE.DataEq
import PySem.Challenge.RW_cantmove_k67_whole_quotients_of_heaps
set_option Elab.async false
set_option linter.all false
set_option autoImplicit false
set_option maxRecDepth 100000
set_option maxHeartbeats 4000000
namespace Z
open PySem L2

/-! ### heaps that grow -/
def Ext (F H : Hp) : Prop := ∀ a o, F a = some o → H a = some o
theorem Ext.refl (F : Hp) : Ext F F := fun _ _ h => h
theorem Ext.trans {F G H : Hp} (a : Ext F G) (b : Ext G H) : Ext F H := fun x o h => b x o (a x o h)
theorem Ext.up {F : Hp} {p : Addr} {o : HO} (h : F p = none) : Ext F (upd F p o) := fun a u e => by
  rw [upd_ne (ne_of_none e h)]
  exact e
theorem Ext.rd {F H : Hp} {a : Addr} {u : HO} (e : Ext F H) (h : Rd F a u) : Rd H a u := by
  rcases h with h | ⟨o, h⟩
  · exact .inl (e a _ h)
  · exact .inr ⟨o, e a _ h⟩
theorem Ext.l {K : PySem.W.Frag} {F H : Hp} {a : Addr} {xs : List V} (e : Ext F H) (h : SqL K F a xs) : SqL K H a xs := h.elim (fun z => .inl (e.rd z)) .inr
theorem Ext.t {K : PySem.W.Frag} {F H : Hp} {a : Addr} {xs : List V} (e : Ext F H) (h : SqT K F a xs) : SqT K H a xs := h.elim (fun z => .inl (e.rd z)) .inr

mutual
theorem dpUp {K : PySem.W.Frag} {F H : Hp} (e : Ext F H) : ∀ (d : PyData) (v : V), Dp K F v d → Dp K H v d
  | .none, _, h => by cases h; exact .non
  | .bool b, _, h => by cases h; exact .bl b
  | .int i, _, h => by cases h; exact .int i
  | .str x, _, h => by cases h; exact .str x
  | .list ds, _, h => by
    cases h with
    | lst hs ha => exact .lst (e.l hs) (dpsUp e ds _ ha)
  | .tuple ds, _, h => by
    cases h with
    | tup hs ha => exact .tup (e.t hs) (dpsUp e ds _ ha)
  | .dict _, _, h => by cases h
theorem dpsUp {K : PySem.W.Frag} {F H : Hp} (e : Ext F H) : ∀ (ds : List PyData) (vs : List V), DpAll K F vs ds → DpAll K H vs ds
  | [], _, h => by cases h; exact .nil
  | d :: ds, _, h => by
    cases h with
    | cons h1 h2 => exact .cons (dpUp e d _ h1) (dpsUp e ds _ h2)
end
theorem dpsLen {K : PySem.W.Frag} {F : Hp} : ∀ {ds : List PyData} {vs : List V}, DpAll K F vs ds → vs.length = ds.length
  | [], _, h => by cases h; rfl
  | d :: ds, _, h => by
    cases h with
    | cons h1 h2 => simp [dpsLen h2]
theorem dpsGet {K : PySem.W.Frag} {F : Hp} : ∀ {ds : List PyData} {vs : List V} {i : Nat} {x : PyData}, DpAll K F vs ds → ds[i]? = some x → ∃ v, vs[i]? = some v ∧ Dp K F v x
  | [], _, i, x, h, e => by simp at e
  | d :: ds, _, 0, x, h, e => by
    cases h with
    | cons h1 h2 => simp at e; subst e; exact ⟨_, rfl, h1⟩
  | d :: ds, _, i + 1, x, h, e => by
    cases h with
    | cons h1 h2 =>
      rw [List.getElem?_cons_succ] at e
      obtain ⟨v, h3, h4⟩ := dpsGet h2 e
      exact ⟨v, by rw [List.getElem?_cons_succ]; exact h3, h4⟩
theorem dpsGet' {K : PySem.W.Frag} {F : Hp} : ∀ {ds : List PyData} {vs : List V} {i : Nat} {v : V}, DpAll K F vs ds → vs[i]? = some v → ∃ x, ds[i]? = some x ∧ Dp K F v x
  | _, [], i, v, h, e => by simp at e
  | _, w :: vs, 0, v, h, e => by
    cases h with
    | cons h1 h2 => simp at e; subst e; exact ⟨_, rfl, h1⟩
  | _, w :: vs, i + 1, v, h, e => by
    cases h with
    | cons h1 h2 =>
      rw [List.getElem?_cons_succ] at e
      obtain ⟨v, h3, h4⟩ := dpsGet' h2 e
      exact ⟨v, by rw [List.getElem?_cons_succ]; exact h3, h4⟩
theorem dpsApp {K : PySem.W.Frag} {F : Hp} : ∀ {ds es : List PyData} {vs ws : List V}, DpAll K F vs ds → DpAll K F ws es → DpAll K F (vs ++ ws) (ds ++ es)
  | [], _, _, _, h, g => by cases h; exact g
  | d :: ds, _, _, _, h, g => by
    cases h with
    | cons h1 h2 => exact .cons h1 (dpsApp h2 g)
theorem dpsTake {K : PySem.W.Frag} {F : Hp} : ∀ {ds : List PyData} {vs : List V} (n : Nat), DpAll K F vs ds → DpAll K F (vs.take n) (ds.take n)
  | _, _, 0, _ => .nil
  | [], _, n + 1, h => by cases h; exact .nil
  | d :: ds, _, n + 1, h => by
    cases h with
    | cons h1 h2 => exact .cons h1 (dpsTake n h2)
theorem dpsDrop {K : PySem.W.Frag} {F : Hp} : ∀ {ds : List PyData} {vs : List V} (n : Nat), DpAll K F vs ds → DpAll K F (vs.drop n) (ds.drop n)
  | _, _, 0, h => h
  | [], _, n + 1, h => by cases h; exact .nil
  | d :: ds, _, n + 1, h => by
    cases h with
    | cons h1 h2 => exact dpsDrop n h2
theorem dpsRev {K : PySem.W.Frag} {F : Hp} : ∀ {ds : List PyData} {vs : List V}, DpAll K F vs ds → DpAll K F vs.reverse ds.reverse
  | [], _, h => by cases h; exact .nil
  | d :: ds, _, h => by
    cases h with
    | cons h1 h2 => rw [List.reverse_cons, List.reverse_cons]; exact dpsApp (dpsRev h2) (.cons h1 .nil)
theorem dpsSet {K : PySem.W.Frag} {F : Hp} {x : PyData} {v : V} (hx : Dp K F v x) : ∀ {ds : List PyData} {vs : List V} (n : Nat), DpAll K F vs ds → DpAll K F (vs.set n v) (ds.set n x)
  | [], _, _, h => by cases h; exact .nil
  | d :: ds, _, 0, h => by
    cases h with
    | cons h1 h2 => exact .cons hx h2
  | d :: ds, _, n + 1, h => by
    cases h with
    | cons h1 h2 => exact .cons h1 (dpsSet hx n h2)

/-! ### what is owned -/
/-- a thing of its own: what is true of it (the frozen heap, the heap, the value, its addresses) -/
structure Own where
  holds : PySem.W.Frag → Hp → Hp → V → List Addr → Prop
  stay : ∀ {K : PySem.W.Frag} {F F' H H' : Hp} {v : V} {fp : List Addr}, holds K F H v fp → Ext F F' → (∀ a ∈ fp, ∀ o, H a = some o → H' a = some o) → holds K F' H' v fp

inductive IT where
  | un | d (x : PyData) | o (P : Own)
/-- an entry: what it is, its value -/
abbrev En := IT × Option V
def Ent (K : PySem.W.Frag) (F H : Hp) : IT → Option V → List Addr → Prop
  | .un, _, fp => fp = []
  | .d x, v, fp => fp = [] ∧ ∃ u, v = some u ∧ Dp K F u x
  | .o P, v, fp => ∃ u, v = some u ∧ P.holds K F H u fp
abbrev EF := En × List Addr
def fpsOf (L : List EF) : List Addr := L.flatMap (·.2)
structure Held (K : PySem.W.Frag) (F H : Hp) (L : List EF) : Prop where
  ext : Ext F H
  ent : ∀ x ∈ L, Ent K F H x.1.1 x.1.2 x.2
  nd : (fpsOf L).Nodup
  own : ∀ a ∈ fpsOf L, F a = none ∧ ∃ o, H a = some o
def OK (K : PySem.W.Frag) (l : List En) (H : Hp) : Prop := ∃ F L, L.map (·.1) = l ∧ Held K F H L

theorem mem_fps {L : List EF} {a : Addr} : a ∈ fpsOf L ↔ ∃ x ∈ L, a ∈ x.2 := by
  unfold fpsOf
  rw [List.mem_flatMap]
theorem Ent.up {K : PySem.W.Frag} {F F' H H' : Hp} (e : Ext F F') : ∀ {i : IT} {v : Option V} {fp : List Addr}, Ent K F H i v fp → (∀ a ∈ fp, ∀ o, H a = some o → H' a = some o) → Ent K F' H' i v fp
  | .un, _, _, h, _ => h
  | .d x, _, _, ⟨h1, u, h2, h3⟩, _ => ⟨h1, u, h2, dpUp e x u h3⟩
  | .o P, _, _, ⟨u, h1, h2⟩, k => ⟨u, h1, P.stay h2 e k⟩

section
variable {K : PySem.W.Frag} {H H' : Hp} {l l' : List En}

theorem lift_perm : ∀ {l l' : List En} (p : l.Perm l') {L : List EF}, L.map (·.1) = l → ∃ L', L'.map (·.1) = l' ∧ L.Perm L' := by
  intro l l' p
  induction p with
  | nil => intro L h; exact ⟨L, h, .refl _⟩
  | cons x p ih =>
    intro L h
    cases L with
    | nil => simp at h
    | cons y L =>
      simp at h
      obtain ⟨h1, h2⟩ := h
      obtain ⟨L', e, q⟩ := ih h2
      exact ⟨y :: L', by simp [h1, e], q.cons y⟩
  | swap x y l =>
    intro L h
    match L, h with
    | a :: b :: L, h =>
      simp at h
      obtain ⟨h1, h2, h3⟩ := h
      exact ⟨b :: a :: L, by simp [h1, h2, h3], List.Perm.swap b a L⟩
  | trans p q ih1 ih2 =>
    intro L h
    obtain ⟨L1, e1, q1⟩ := ih1 h
    obtain ⟨L2, e2, q2⟩ := ih2 e1
    exact ⟨L2, e2, q1.trans q2⟩
theorem fps_perm {L L' : List EF} (p : L.Perm L') : (fpsOf L).Perm (fpsOf L') := by
  unfold fpsOf
  exact List.Perm.flatMap_right _ p
theorem Held.perm {F : Hp} {L L' : List EF} (p : L.Perm L') (h : Held K F H L) : Held K F H L' :=
  ⟨h.ext, fun x hx => h.ent x (p.mem_iff.mpr hx), (fps_perm p).nodup_iff.mp h.nd, fun a ha => h.own a ((fps_perm p).mem_iff.mpr ha)⟩
theorem OK.perm (p : l.Perm l') (h : OK K l H) : OK K l' H := by
  obtain ⟨F, L, e, g⟩ := h
  obtain ⟨L', e', q⟩ := lift_perm p e
  exact ⟨F, L', e', g.perm q⟩
theorem Held.tail {F : Hp} {x : EF} {L : List EF} (h : Held K F H (x :: L)) : Held K F H L :=
  ⟨h.ext, fun y hy => h.ent y (List.mem_cons_of_mem _ hy), (by
    have := h.nd
    unfold fpsOf at this
    rw [List.flatMap_cons] at this
    exact (List.nodup_append.mp this).2.1), fun a ha => h.own a (by
    unfold fpsOf
    rw [List.flatMap_cons]
    exact List.mem_append_right _ ha)⟩
theorem OK.tail {x : En} (h : OK K (x :: l) H) : OK K l H := by
  obtain ⟨F, L, e, g⟩ := h
  cases L with
  | nil => simp at e
  | cons y L => simp at e; exact ⟨F, L, e.2, g.tail⟩
theorem OK.right {k : List En} (h : OK K (k ++ l) H) : OK K l H := by
  induction k with
  | nil => exact h
  | cons x k ih => exact ih (OK.tail h)
theorem OK.left {k : List En} (h : OK K (l ++ k) H) : OK K l H := OK.right (k := k) (h.perm List.perm_append_comm)
theorem set_perm {α : Type} : ∀ {l : List α} {i : Nat} {y x : α}, l[i]? = some y → (x :: l).Perm (y :: l.set i x)
  | [], i, y, x, h => by simp at h
  | a :: l, 0, y, x, h => by
    simp at h
    subst h
    exact List.Perm.swap _ _ _
  | a :: l, i + 1, y, x, h => by
    have ih := set_perm (l := l) (i := i) (y := y) (x := x) (by simpa using h)
    rw [List.set_cons_succ]
    exact (List.Perm.swap a x l).trans ((ih.cons a).trans (List.Perm.swap y a _))
/-- a new entry in the place of the i-th -/
theorem OK.set {x : En} (i : Nat) (h : OK K (x :: l) H) : OK K (l.set i x) H := by
  cases e : l[i]? with
  | none =>
    rw [List.set_eq_of_length_le (List.getElem?_eq_none_iff.mp e)]
    exact h.tail
  | some y => exact (h.perm (set_perm e)).tail
/-- the i-th entry to the front, another in its place -/
theorem Held.unCons {F : Hp} {L : List EF} {v : Option V} (h : Held K F H L) : Held K F H (((IT.un, v), []) :: L) :=
  ⟨h.ext, fun y hy => by
    rcases List.mem_cons.mp hy with e | e
    · subst e; rfl
    · exact h.ent y e, by unfold fpsOf; rw [List.flatMap_cons]; exact h.nd, fun a ha => h.own a (by unfold fpsOf at ha ⊢; rw [List.flatMap_cons] at ha; exact ha)⟩
theorem OK.un {v : Option V} (h : OK K l H) : OK K ((IT.un, v) :: l) H := by
  obtain ⟨F, L, e, g⟩ := h
  exact ⟨F, ((IT.un, v), []) :: L, by rw [List.map_cons, e], g.unCons⟩
theorem OK.uns (vs : List (Option V)) (h : OK K l H) : OK K (vs.map (fun v => (IT.un, v)) ++ l) H := by
  induction vs with
  | nil => exact h
  | cons v vs ih => exact ih.un
theorem OK.out {i : Nat} {x : IT} {v : Option V} (e : l[i]? = some (x, v)) (h : OK K l H) : OK K ((x, v) :: l.set i (IT.un, v)) H := (h.un (v := v)).perm (set_perm e)
/-- a known datum once more -/
theorem Held.dCons {F : Hp} {L : List EF} {v : V} {x : PyData} (h : Held K F H L) (hd : Dp K F v x) : Held K F H (((IT.d x, some v), []) :: L) :=
  ⟨h.ext, fun y hy => by
    rcases List.mem_cons.mp hy with e | e
    · subst e; exact ⟨rfl, v, rfl, hd⟩
    · exact h.ent y e, by unfold fpsOf; rw [List.flatMap_cons]; exact h.nd, fun a ha => h.own a (by unfold fpsOf at ha ⊢; rw [List.flatMap_cons] at ha; exact ha)⟩
theorem mem_map1 {L : List EF} {y : En} (h : y ∈ L.map (·.1)) : ∃ fp, (y, fp) ∈ L := by
  obtain ⟨z, hz, e⟩ := List.mem_map.mp h
  exact ⟨z.2, by rw [← e]; exact hz⟩
theorem OK.dup {x : PyData} {v : Option V} (m : (IT.d x, v) ∈ l) (h : OK K l H) : ∃ u, v = some u ∧ Dp K H u x ∧ OK K ((IT.d x, some u) :: l) H := by
  obtain ⟨F, L, e, g⟩ := h
  subst e
  obtain ⟨fp, hm⟩ := mem_map1 m
  obtain ⟨_, u, e1, hd⟩ := g.ent _ hm
  exact ⟨u, e1, dpUp g.ext x u hd, F, _, by simp, g.dCons hd⟩
/-- plain values need nothing of the heap -/
def flat : V → PyData → Prop
  | .non, .none => True
  | .bl b, .bool c => b = c
  | .int i, .int j => i = j
  | .str x, .str y => x = y
  | _, _ => False
theorem flatDp {F : Hp} {v : V} {x : PyData} (h : flat v x) : Dp K F v x := by
  cases v <;> cases x <;> first | exact h.elim | skip
  · exact .non
  · have e : _ = _ := h; subst e; exact .bl _
  · have e : _ = _ := h; subst e; exact .int _
  · have e : _ = _ := h; subst e; exact .str _
theorem OK.flat {x : PyData} {v : V} (f : flat v x) (h : OK K l H) : OK K ((IT.d x, some v) :: l) H := by
  obtain ⟨F, L, e, g⟩ := h
  exact ⟨F, _, by simp [e], g.dCons (flatDp f)⟩

/-! ### new objects -/
def ds2 (ds : List PyData) (vs : List V) : List En := List.zipWith (fun x v => (IT.d x, some v)) ds vs
theorem held_ds {F : Hp} : ∀ {ds : List PyData} {vs : List V} {L : List EF}, ds.length = vs.length → L.map (·.1) = ds2 ds vs ++ l → Held K F H L → DpAll K F vs ds
  | [], [], L, _, _, _ => .nil
  | d :: ds, v :: vs, L, h, e, g => by
    cases L with
    | nil => simp [ds2] at e
    | cons y L =>
      simp only [ds2, List.zipWith_cons_cons, List.map_cons, List.cons_append, List.cons.injEq] at e
      obtain ⟨e1, e2⟩ := e
      have k := g.ent y List.mem_cons_self
      rw [e1] at k
      obtain ⟨_, u, eu, hd⟩ := k
      cases eu
      exact .cons hd (held_ds (by simpa using h) e2 g.tail)
  | [], v :: vs, L, h, _, _ => by simp at h
  | d :: ds, [], L, h, _, _ => by simp at h
theorem Held.grow {F F' : Hp} {L : List EF} (h : Held K F H L) (e1 : Ext F F') (e2 : Ext F' H') (k : ∀ a ∈ fpsOf L, ∀ o, H a = some o → H' a = some o) (n : ∀ a ∈ fpsOf L, F' a = none) : Held K F' H' L :=
  ⟨e2, fun x hx => (h.ent x hx).up e1 fun a ha o ho => k a (mem_fps.mpr ⟨x, hx, ha⟩) o ho, h.nd, fun a ha => ⟨n a ha, by
    obtain ⟨o, ho⟩ := (h.own a ha).2
    exact ⟨o, k a ha o ho⟩⟩⟩
theorem ext_none {F : Hp} {p : Addr} (e : Ext F H) (h : H p = none) : F p = none := by
  cases q : F p with
  | none => rfl
  | some o => rw [e p o q] at h; cases h
/-- a new thing laid, of the frozen part -/
theorem Held.frozen {F : Hp} {L : List EF} {p : Addr} {o : HO} (h : Held K F H L) (hp : H p = none) : Held K (upd F p o) (upd H p o) L := by
  have np : ∀ a ∈ fpsOf L, a ≠ p := fun a ha z => by
    obtain ⟨u, hu⟩ := (h.own a ha).2
    rw [z, hp] at hu
    cases hu
  refine h.grow (Ext.up (ext_none h.ext hp)) (fun a u q => ?_) (fun a ha u hu => ?_) fun a ha => ?_
  · by_cases e : a = p
    · subst e; rw [upd_same] at q ⊢; exact q
    · rw [upd_ne e] at q ⊢; exact h.ext a u q
  · rw [upd_ne (np a ha)]; exact hu
  · rw [upd_ne (np a ha)]; exact (h.own a ha).1
/-- .. of its own -/
theorem Held.fresh {F : Hp} {L : List EF} {p : Addr} {o : HO} (h : Held K F H L) (hp : H p = none) : Held K F (upd H p o) L :=
  h.grow (Ext.refl F) (fun a u q => by
    have e := h.ext a u q
    rw [upd_ne (ne_of_none e hp)]
    exact e) (fun a ha u hu => by rw [upd_ne (ne_of_none hu hp)]; exact hu) fun a ha => (h.own a ha).1
theorem OK.split {k : List En} (h : OK K (k ++ l) H) : ∃ F L1 L2, L1.map (·.1) = k ∧ L2.map (·.1) = l ∧ Held K F H (L1 ++ L2) := by
  obtain ⟨F, L, e, g⟩ := h
  obtain ⟨L1, L2, e1, e2, e3⟩ := List.map_eq_append_iff.mp e
  subst e1
  exact ⟨F, L1, L2, e2, e3, g⟩
theorem Held.right {F : Hp} {L1 L2 : List EF} (h : Held K F H (L1 ++ L2)) : Held K F H L2 := by
  induction L1 with
  | nil => exact h
  | cons x L ih => exact ih h.tail
theorem OK.tup {ds : List PyData} {vs : List V} {p : Addr} (hl : ds.length = vs.length) (h : OK K (ds2 ds vs ++ l) H) (hp : H p = none) : OK K ((IT.d (.tuple ds), some (.ref p)) :: l) (upd H p (.tup vs)) := by
  obtain ⟨F, L1, L2, e1, e2, g⟩ := h.split
  have q : DpAll K F vs ds := held_ds (l := l) hl (by rw [List.map_append, e1, e2]) g
  have q2 : DpAll K (upd F p (.tup vs)) vs ds := dpsUp (Ext.up (ext_none g.ext hp)) ds vs q
  exact ⟨_, _, by simp [e2], (g.right.frozen hp).dCons (.tup (.of upd_same) q2)⟩
theorem OK.lstD {ds : List PyData} {vs : List V} {p : Addr} (hl : ds.length = vs.length) (h : OK K (ds2 ds vs ++ l) H) (hp : H p = none) : OK K ((IT.d (.list ds), some (.ref p)) :: l) (upd H p (.lst vs)) := by
  obtain ⟨F, L1, L2, e1, e2, g⟩ := h.split
  have q : DpAll K F vs ds := held_ds (l := l) hl (by rw [List.map_append, e1, e2]) g
  have q2 : DpAll K (upd F p (.lst vs)) vs ds := dpsUp (Ext.up (ext_none g.ext hp)) ds vs q
  exact ⟨_, _, by simp [e2], (g.right.frozen hp).dCons (.lst (.of upd_same) q2)⟩

/-- a list of its own -/
def OL (ds : List PyData) : Own where
  holds := fun K F H v fp => ∃ p vs, v = .ref p ∧ fp = [p] ∧ H p = some (.lst vs) ∧ DpAll K F vs ds
  stay := fun ⟨p, vs, e1, e2, e3, e4⟩ e k => ⟨p, vs, e1, e2, k p (by rw [e2]; simp) _ e3, dpsUp e _ _ e4⟩
theorem Held.oCons {F : Hp} {L : List EF} {v : V} {P : Own} {fp : List Addr} (h : Held K F H L) (hP : P.holds K F H v fp) (nd : fp.Nodup) (dj : ∀ a ∈ fp, a ∉ fpsOf L) (ow : ∀ a ∈ fp, F a = none ∧ ∃ o, H a = some o) : Held K F H (((IT.o P, some v), fp) :: L) := by
  refine ⟨h.ext, fun y hy => ?_, ?_, fun a ha => ?_⟩
  · rcases List.mem_cons.mp hy with e | e
    · subst e; exact ⟨v, rfl, hP⟩
    · exact h.ent y e
  · unfold fpsOf
    rw [List.flatMap_cons]
    exact List.nodup_append.mpr ⟨nd, h.nd, fun a ha b hb z => dj a ha (by rw [z]; exact hb)⟩
  · unfold fpsOf at ha
    rw [List.flatMap_cons] at ha
    rcases List.mem_append.mp ha with ha | ha
    · exact ow a ha
    · exact h.own a ha
theorem OK.lst {ds : List PyData} {vs : List V} {p : Addr} (hl : ds.length = vs.length) (h : OK K (ds2 ds vs ++ l) H) (hp : H p = none) : OK K ((IT.o (OL ds), some (.ref p)) :: l) (upd H p (.lst vs)) := by
  obtain ⟨F, L1, L2, e1, e2, g⟩ := h.split
  have q : DpAll K F vs ds := held_ds (l := l) hl (by rw [List.map_append, e1, e2]) g
  have g2 := g.right.fresh (o := .lst vs) hp
  refine ⟨F, _, by simp [e2], g2.oCons (v := .ref p) (P := OL ds) (fp := [p]) ⟨p, vs, rfl, rfl, upd_same, q⟩ (by simp) (fun a ha hb => ?_) fun a ha => ?_⟩
  · have e : a = p := by simpa using ha
    subst e
    obtain ⟨u, hu⟩ := (g.right.own a hb).2
    rw [hp] at hu
    cases hu
  · have e : a = p := by simpa using ha
    subst e
    exact ⟨ext_none g.ext hp, _, upd_same⟩
/-- an owned thing at the front is changed at addresses of its own -/
theorem Held.change {F : Hp} {L : List EF} {v : V} {P Q : Own} {fp : List Addr} (h : Held K F H (((IT.o P, some v), fp) :: L)) (hQ : Q.holds K F H' v fp) (k : ∀ a o, a ∉ fp → H a = some o → H' a = some o) (t : ∀ a ∈ fp, ∃ o, H' a = some o) :
    Held K F H' (((IT.o Q, some v), fp) :: L) := by
  have nd := h.nd
  unfold fpsOf at nd
  rw [List.flatMap_cons] at nd
  obtain ⟨n1, n2, n3⟩ := List.nodup_append.mp nd
  have own : ∀ a ∈ fp, F a = none := fun a ha => (h.own a (mem_fps.mpr ⟨_, List.mem_cons_self, ha⟩)).1
  refine (h.tail.grow (Ext.refl F) (fun a u q => k a u (fun z => by rw [own a z] at q; cases q) (h.ext a u q)) (fun a ha u hu => k a u (fun z => n3 a z a ha rfl) hu) fun a ha => (h.tail.own a ha).1).oCons hQ n1 (fun a ha hb => n3 a ha a hb rfl) fun a ha => ⟨own a ha, t a ha⟩
end
end Z

namespace Z
open PySem L2

/-! ### the frozen part by name -/
def Fz (K : PySem.W.Frag) (F : Hp) (l : List En) (H : Hp) : Prop := ∃ L, L.map (·.1) = l ∧ Held K F H L
section
variable {K : PySem.W.Frag} {H H' F : Hp} {l l' : List En}
theorem OK.fz (h : OK K l H) : ∃ F, Fz K F l H := let ⟨F, L, e, g⟩ := h; ⟨F, L, e, g⟩
theorem Fz.ok (h : Fz K F l H) : OK K l H := let ⟨L, e, g⟩ := h; ⟨F, L, e, g⟩
theorem Fz.ext (h : Fz K F l H) : Ext F H := let ⟨_, _, g⟩ := h; g.ext
theorem Fz.perm (p : l.Perm l') (h : Fz K F l H) : Fz K F l' H := by
  obtain ⟨L, e, g⟩ := h
  obtain ⟨L', e', q⟩ := lift_perm p e
  exact ⟨L', e', g.perm q⟩
theorem Fz.tail {x : En} (h : Fz K F (x :: l) H) : Fz K F l H := by
  obtain ⟨L, e, g⟩ := h
  cases L with
  | nil => simp at e
  | cons y L => simp at e; exact ⟨L, e.2, g.tail⟩
theorem Fz.at {x : PyData} {v : Option V} (h : Fz K F l H) (m : (IT.d x, v) ∈ l) : ∃ u, v = some u ∧ Dp K F u x := by
  obtain ⟨L, e, g⟩ := h
  subst e
  obtain ⟨fp, hm⟩ := mem_map1 m
  obtain ⟨_, u, e1, hd⟩ := g.ent _ hm
  exact ⟨u, e1, hd⟩
theorem Fz.own {P : Own} {v : Option V} (h : Fz K F l H) (m : (IT.o P, v) ∈ l) : ∃ u fp, v = some u ∧ P.holds K F H u fp := by
  obtain ⟨L, e, g⟩ := h
  subst e
  obtain ⟨fp, hm⟩ := mem_map1 m
  obtain ⟨u, e1, hd⟩ := g.ent _ hm
  exact ⟨u, fp, e1, hd⟩
theorem Fz.add {x : PyData} {v : V} (h : Fz K F l H) (d : Dp K F v x) : Fz K F ((IT.d x, some v) :: l) H := by
  obtain ⟨L, e, g⟩ := h
  exact ⟨(((IT.d x, some v), []) :: L), by rw [List.map_cons, e], g.dCons d⟩
theorem Fz.un {v : Option V} (h : Fz K F l H) : Fz K F ((IT.un, v) :: l) H := by
  obtain ⟨L, e, g⟩ := h
  exact ⟨(((IT.un, v), []) :: L), by rw [List.map_cons, e], g.unCons⟩
theorem Fz.tup {ds : List PyData} {vs : List V} {p : Addr} (h : Fz K F l H) (q : DpAll K F vs ds) (hp : H p = none) : OK K ((IT.d (.tuple ds), some (.ref p)) :: l) (upd H p (.tup vs)) := by
  obtain ⟨L, e, g⟩ := h
  have q2 : DpAll K (upd F p (.tup vs)) vs ds := dpsUp (Ext.up (ext_none g.ext hp)) ds vs q
  exact ⟨_, _, by rw [List.map_cons, e], (g.frozen hp).dCons (v := .ref p) (.tup (.of upd_same) q2)⟩
theorem Fz.lstD {ds : List PyData} {vs : List V} {p : Addr} (h : Fz K F l H) (q : DpAll K F vs ds) (hp : H p = none) : OK K ((IT.d (.list ds), some (.ref p)) :: l) (upd H p (.lst vs)) := by
  obtain ⟨L, e, g⟩ := h
  have q2 : DpAll K (upd F p (.lst vs)) vs ds := dpsUp (Ext.up (ext_none g.ext hp)) ds vs q
  exact ⟨_, _, by rw [List.map_cons, e], (g.frozen hp).dCons (v := .ref p) (.lst (.of upd_same) q2)⟩
/-- a new thing of its own, at one address -/
theorem Fz.newO {P : Own} {o : HO} {p : Addr} (h : Fz K F l H) (hp : H p = none) (hP : P.holds K F (upd H p o) (.ref p) [p]) : OK K ((IT.o P, some (.ref p)) :: l) (upd H p o) := by
  obtain ⟨L, e, g⟩ := h
  refine ⟨F, _, by rw [List.map_cons, e], (g.fresh (o := o) hp).oCons (v := .ref p) (P := P) (fp := [p]) hP (by simp) (fun a ha hb => ?_) fun a ha => ?_⟩
  · have e : a = p := by simpa using ha
    subst e
    obtain ⟨u, hu⟩ := (g.own a hb).2
    rw [hp] at hu
    cases hu
  · have e : a = p := by simpa using ha
    subst e
    exact ⟨ext_none g.ext hp, _, upd_same⟩
theorem Fz.lstO {ds : List PyData} {vs : List V} {p : Addr} (h : Fz K F l H) (q : DpAll K F vs ds) (hp : H p = none) : OK K ((IT.o (OL ds), some (.ref p)) :: l) (upd H p (.lst vs)) :=
  h.newO hp ⟨p, vs, rfl, rfl, upd_same, q⟩
/-- the list at the front is another one -/
theorem Fz.putL {ds ds' : List PyData} {v : V} (h : Fz K F ((IT.o (OL ds), some v) :: l) H) : ∃ p vs, v = .ref p ∧ H p = some (.lst vs) ∧ DpAll K F vs ds ∧
    ∀ ds' vs', DpAll K F vs' ds' → OK K ((IT.o (OL ds'), some v) :: l) (upd H p (.lst vs')) := by
  obtain ⟨L, e, g⟩ := h
  cases L with
  | nil => simp at e
  | cons y L =>
    obtain ⟨y1, fp⟩ := y
    simp at e
    obtain ⟨e1, e2⟩ := e
    subst e1
    obtain ⟨u, e3, p, vs, e4, e5, e6, e7⟩ := g.ent _ List.mem_cons_self
    have e3' : v = u := Option.some.inj e3
    subst e3'
    have e5' : fp = [p] := e5
    subst e5'
    refine ⟨p, vs, e4, e6, e7, fun ds' vs' q => ⟨F, _, ?_, g.change (H' := upd H p (.lst vs')) (Q := OL ds') ⟨p, vs', e4, rfl, upd_same, q⟩ (fun a o ha ho => ?_) fun a ha => ?_⟩⟩
    · rw [List.map_cons, e2]
    · rw [upd_ne (by simpa using ha)]; exact ho
    · have e : a = p := by simpa using ha
      subst e
      exact ⟨_, upd_same⟩
/-- the list at the front is kept for good -/
theorem Fz.freeze {ds : List PyData} {v : V} (h : Fz K F ((IT.o (OL ds), some v) :: l) H) : OK K ((IT.d (.list ds), some v) :: l) H := by
  obtain ⟨L, e, g⟩ := h
  cases L with
  | nil => simp at e
  | cons y L =>
    obtain ⟨y1, fp⟩ := y
    simp at e
    obtain ⟨e1, e2⟩ := e
    subst e1
    obtain ⟨u, e3, p, vs, e4, e5, e6, e7⟩ := g.ent _ List.mem_cons_self
    have e3' : v = u := Option.some.inj e3
    subst e3'
    have e5' : fp = [p] := e5
    subst e5'
    have nF : F p = none := (g.own p (mem_fps.mpr ⟨_, List.mem_cons_self, by simp⟩)).1
    have nd := g.nd
    unfold fpsOf at nd
    rw [List.flatMap_cons] at nd
    obtain ⟨_, _, n3⟩ := List.nodup_append.mp nd
    have g2 : Held K (upd F p (.lst vs)) H L := g.tail.grow (Ext.up nF) (fun a o q => by
      by_cases ea : a = p
      · subst ea; rw [upd_same] at q; cases q; exact e6
      · rw [upd_ne ea] at q; exact g.ext a o q) (fun _ _ _ q => q) fun a ha => by
        rw [upd_ne (fun z => n3 p (by simp) a ha z.symm)]
        exact (g.tail.own a ha).1
    refine ⟨upd F p (.lst vs), (((IT.d (.list ds), some v), []) :: L), by rw [List.map_cons, e2], g2.dCons ?_⟩
    subst e4
    exact .lst (.of upd_same) (dpsUp (Ext.up nF) _ _ e7)
end

/-! ### the state -/
inductive SD where
  | un | d (x : PyData) | r (j : Nat)
def itOf : SD → IT
  | .d x => .d x
  | _ => .un
structure S where
  e : List SD
  R : List Own
def ES (e : List SD) (σ : L2.St) : List En := List.zipWith (fun s v => (itOf s, v)) e σ
def RS (R : List Own) (ρ : List V) : List En := List.zipWith (fun P v => (IT.o P, some v)) R ρ
structure Sat (K : PySem.W.Frag) (s : S) (σ : L2.St) (ρ : List V) (T : List En) (H : Hp) : Prop where
  le : s.e.length = σ.length
  lr : s.R.length = ρ.length
  al : ∀ (i j : Nat), s.e[i]? = some (SD.r j) → ∃ v : V, σ[i]? = some (some v) ∧ ρ[j]? = some v
  ok : OK K (T ++ (ES s.e σ ++ RS s.R ρ)) H
/-- a value that is a reference is the one of the store -/
def VR (r : SD) (ρ : List V) (v : V) : Prop := match r with
  | .r j => ρ[j]? = some v
  | _ => True
theorem VR.mono {r : SD} {ρ ρ' : List V} {v : V} (h : VR r ρ v) (p : ρ <+: ρ') : VR r ρ' v := by
  cases r with
  | r j =>
    obtain ⟨m, rfl⟩ := p
    have h' : ρ[j]? = some v := h
    show (ρ ++ m)[j]? = some v
    rw [List.getElem?_append_left (List.getElem?_eq_some_iff.mp h').1]
    exact h'
  | _ => trivial

theorem es_get {e : List SD} {σ : L2.St} {i : Nat} {a : SD} {v : Option V} (h1 : e[i]? = some a) (h2 : σ[i]? = some v) : (ES e σ)[i]? = some (itOf a, v) := by
  unfold ES
  rw [List.getElem?_zipWith, h1, h2]
theorem rs_get {R : List Own} {ρ : List V} {i : Nat} {P : Own} {v : V} (h1 : R[i]? = some P) (h2 : ρ[i]? = some v) : (RS R ρ)[i]? = some (IT.o P, some v) := by
  unfold RS
  rw [List.getElem?_zipWith, h1, h2]
theorem get_of_len {α β : Type} {l : List α} {m : List β} (h : l.length = m.length) {i : Nat} {a : α} (e : l[i]? = some a) : ∃ b, m[i]? = some b := by
  obtain ⟨hi, _⟩ := List.getElem?_eq_some_iff.mp e
  exact ⟨m[i]'(by omega), List.getElem?_eq_getElem (by omega)⟩
section
variable {K : PySem.W.Frag} {s : S} {σ : L2.St} {ρ : List V} {T : List En} {H : Hp}
theorem Sat.tperm {T' : List En} (p : T.Perm T') (h : Sat K s σ ρ T H) : Sat K s σ ρ T' H := ⟨h.le, h.lr, h.al, h.ok.perm (p.append_right _)⟩
theorem Sat.tdrop {x : En} (h : Sat K s σ ρ (x :: T) H) : Sat K s σ ρ T H := ⟨h.le, h.lr, h.al, OK.tail h.ok⟩
theorem Sat.tdrops {T1 : List En} (h : Sat K s σ ρ (T1 ++ T) H) : Sat K s σ ρ T H := ⟨h.le, h.lr, h.al, OK.right (k := T1) (by rw [← List.append_assoc]; exact h.ok)⟩
theorem Sat.tun {v : Option V} (h : Sat K s σ ρ T H) : Sat K s σ ρ ((IT.un, v) :: T) H := ⟨h.le, h.lr, h.al, h.ok.un⟩
theorem Sat.tflat {x : PyData} {v : V} (f : flat v x) (h : Sat K s σ ρ T H) : Sat K s σ ρ ((IT.d x, some v) :: T) H := ⟨h.le, h.lr, h.al, h.ok.flat f⟩
theorem Sat.slot {i : Nat} {x : PyData} (h : Sat K s σ ρ T H) (e : s.e[i]? = some (SD.d x)) : ∃ v : V, σ[i]? = some (some v) ∧ Sat K s σ ρ ((IT.d x, some v) :: T) H := by
  obtain ⟨ov, h2⟩ := get_of_len h.le e
  have m : (IT.d x, ov) ∈ T ++ (ES s.e σ ++ RS s.R ρ) := List.mem_append_right _ (List.mem_append_left _ (List.mem_of_getElem? (es_get e h2)))
  obtain ⟨u, e1, _, ok⟩ := h.ok.dup m
  subst e1
  exact ⟨u, h2, h.le, h.lr, h.al, ok⟩
/-- a store to a slot, of the value on top -/
theorem Sat.put {i : Nat} {r : SD} {v : V} (hi : i < s.e.length) (vr : VR r ρ v) (h : Sat K s σ ρ ((itOf r, some v) :: T) H) : Sat K ⟨s.e.set i r, s.R⟩ (σ.set i (some v)) ρ T H := by
  have hσ : i < σ.length := by rw [← h.le]; exact hi
  refine ⟨by simp [h.le], h.lr, fun k j e => ?_, ?_⟩
  · by_cases hk : k = i
    · subst hk
      simp only [List.getElem?_set_self hi, Option.some.injEq] at e
      subst e
      exact ⟨v, by rw [List.getElem?_set_self hσ], vr⟩
    · simp only [List.getElem?_set_ne (Ne.symm hk)] at e
      obtain ⟨w, e1, e2⟩ := h.al k j e
      exact ⟨w, by rw [List.getElem?_set_ne (Ne.symm hk)]; exact e1, e2⟩
  · have q : ES (s.e.set i r) (σ.set i (some v)) = (ES s.e σ).set i (itOf r, some v) := by
      unfold ES
      apply List.ext_getElem?
      intro k
      rw [List.getElem?_zipWith]
      by_cases hk : k = i
      · subst hk
        rw [List.getElem?_set_self hi, List.getElem?_set_self hσ, List.getElem?_set_self (by rw [List.length_zipWith]; omega)]
      · rw [List.getElem?_set_ne (Ne.symm hk), List.getElem?_set_ne (Ne.symm hk), List.getElem?_set_ne (Ne.symm hk), List.getElem?_zipWith]
    have hz : i < (ES s.e σ).length := by unfold ES; rw [List.length_zipWith]; omega
    have k : OK K ((T ++ (ES s.e σ ++ RS s.R ρ)).set (T.length + i) (itOf r, some v)) H := OK.set (T.length + i) h.ok
    rw [List.set_append_right _ _ (Nat.le_add_right _ _), Nat.add_sub_cancel_left, List.set_append_left _ _ hz, ← q] at k
    exact k
/-- a new object for the store, from the top -/
theorem Sat.push {P : Own} {v : V} (h : OK K ((IT.o P, some v) :: (T ++ (ES s.e σ ++ RS s.R ρ))) H) (le : s.e.length = σ.length) (lr : s.R.length = ρ.length) (al : ∀ (i j : Nat), s.e[i]? = some (SD.r j) → ∃ v : V, σ[i]? = some (some v) ∧ ρ[j]? = some v) :
    Sat K ⟨s.e, s.R ++ [P]⟩ σ (ρ ++ [v]) T H := by
  refine ⟨le, by simp [lr], fun i j e => ?_, ?_⟩
  · obtain ⟨w, e1, e2⟩ := al i j e
    exact ⟨w, e1, by rw [List.getElem?_append_left (List.getElem?_eq_some_iff.mp e2).1]; exact e2⟩
  · have q : RS (s.R ++ [P]) (ρ ++ [v]) = RS s.R ρ ++ [(IT.o P, some v)] := by
      unfold RS
      rw [List.zipWith_append lr]
      rfl
    rw [show (⟨s.e, s.R ++ [P]⟩ : S).R = s.R ++ [P] from rfl, q]
    refine h.perm ?_
    show ((IT.o P, some v) :: (T ++ (ES s.e σ ++ RS s.R ρ))).Perm (T ++ (ES s.e σ ++ (RS s.R ρ ++ [(IT.o P, some v)])))
    rw [← List.append_assoc, ← List.append_assoc, ← List.append_assoc]
    exact (List.perm_append_singleton _ _).symm
/-- the j-th object of the store to the front -/
theorem rs_set {R : List Own} {ρ : List V} (lr : R.length = ρ.length) {j : Nat} {P : Own} {v : V} (e : ρ[j]? = some v) : RS (R.set j P) ρ = (RS R ρ).set j (IT.o P, some v) := by
  obtain ⟨hj, ej⟩ := List.getElem?_eq_some_iff.mp e
  unfold RS
  apply List.ext_getElem?
  intro k
  rw [List.getElem?_zipWith]
  by_cases hk : k = j
  · subst hk
    rw [List.getElem?_set_self (by omega), e, List.getElem?_set_self (by simp [List.length_zipWith]; omega)]
  · rw [List.getElem?_set_ne (Ne.symm hk), List.getElem?_set_ne (Ne.symm hk), List.getElem?_zipWith]
theorem Sat.obj {j : Nat} {P : Own} (h : Sat K s σ ρ T H) (e : s.R[j]? = some P) : ∃ v, ρ[j]? = some v ∧
    OK K ((IT.o P, some v) :: (T ++ (ES s.e σ ++ (RS s.R ρ).set j (IT.un, some v)))) H ∧
    ∀ (H' : Hp) (Q : Own), OK K ((IT.o Q, some v) :: (T ++ (ES s.e σ ++ (RS s.R ρ).set j (IT.un, some v)))) H' → Sat K ⟨s.e, s.R.set j Q⟩ σ ρ T H' := by
  obtain ⟨v, h2⟩ := get_of_len h.lr e
  have g := rs_get e h2
  have hz : j < (RS s.R ρ).length := (List.getElem?_eq_some_iff.mp g).1
  have n1 : ∀ x : En, (T ++ (ES s.e σ ++ RS s.R ρ)).set (T.length + ((ES s.e σ).length + j)) x = T ++ (ES s.e σ ++ (RS s.R ρ).set j x) := fun x => by
    rw [List.set_append_right _ _ (Nat.le_add_right _ _), Nat.add_sub_cancel_left, List.set_append_right _ _ (Nat.le_add_right _ _), Nat.add_sub_cancel_left]
  refine ⟨v, h2, ?_, fun H' Q ok => ?_⟩
  · rw [← n1]
    refine h.ok.out ?_
    rw [List.getElem?_append_right (Nat.le_add_right _ _), Nat.add_sub_cancel_left, List.getElem?_append_right (Nat.le_add_right _ _), Nat.add_sub_cancel_left]
    exact g
  · refine ⟨h.le, by simpa using h.lr, h.al, ?_⟩
    have k := ok.set (T.length + ((ES s.e σ).length + j))
    rw [← n1, List.set_set, n1, ← rs_set h.lr h2] at k
    exact k
end
end Z

namespace Z
open PySem L2

/-! ### judgements -/
def tE (K : PySem.W.Frag) (s : S) (r : SD) (s' : S) : TE := fun σ H Q => ∃ T ρ, Sat K s σ ρ T H ∧ ∀ v ρ' H', ρ <+: ρ' → VR r ρ' v → Sat K s' σ ρ' ((itOf r, some v) :: T) H' → Q v H'
def ZE (X : Cx) (ex : Expr) (s : S) (r : SD) (s' : S) : Prop := PE X ex (tE X.K s r s')
def tT (K : PySem.W.Frag) (s : S) (R : Bool → S → Prop) : TT := fun σ H Q => ∃ T ρ, Sat K s σ ρ T H ∧ ∀ b s' ρ' H', R b s' → ρ <+: ρ' → Sat K s' σ ρ' T H' → Q b H'
def ZT (X : Cx) (ex : Expr) (s : S) (R : Bool → S → Prop) : Prop := PT X ex (tT X.K s R)
def ZW (X : Cx) (ex : Expr) (s : S) (R : Bool → S → Prop) : Prop := PW X ex (tT X.K s R)
/-- just this answer -/
def Is (b : Bool) (s : S) : Bool → S → Prop := fun c t => c = b ∧ t = s
def its (rs : List SD) (vs : List V) : List En := List.zipWith (fun r v => (itOf r, some v)) rs vs
def VRs (rs : List SD) (ρ : List V) (vs : List V) : Prop := rs.length = vs.length ∧ ∀ (i : Nat) (r : SD) (v : V), rs[i]? = some r → vs[i]? = some v → VR r ρ v
def tA (K : PySem.W.Frag) (s : S) (rs : List SD) (s' : S) : TA := fun σ H Q => ∃ T ρ, Sat K s σ ρ T H ∧ ∀ vs ρ' H', ρ <+: ρ' → VRs rs ρ' vs → Sat K s' σ ρ' (its rs vs ++ T) H' → Q vs H'
def ZA (X : Cx) (es : List Expr) (s : S) (rs : List SD) (s' : S) : Prop := PA X es (tA X.K s rs s')
structure Po where
  b : Nat
  nx : S → Prop
  rt : SD → S → Prop
  bk : S → Prop := fun _ => False
  ct : S → Prop := fun _ => False
structure Meets (K : PySem.W.Frag) (P : Po) (ρ : List V) (T : List En) (D : Ends) : Prop where
  nx : ∀ s' σ' ρ' H', P.nx s' → ρ <+: ρ' → Sat K s' σ' ρ' T H' → D.nx σ' H'
  rt : ∀ r s' σ' ρ' H' v, P.rt r s' → ρ <+: ρ' → VR r ρ' v → Sat K s' σ' ρ' ((itOf r, some v) :: T) H' → D.rt v H'
  bk : ∀ s' σ' ρ' H', P.bk s' → ρ <+: ρ' → Sat K s' σ' ρ' T H' → D.bk σ' H'
  ct : ∀ s' σ' ρ' H', P.ct s' → ρ <+: ρ' → Sat K s' σ' ρ' T H' → D.ct σ' H'
def tS (K : PySem.W.Frag) (M : S → Prop) (P : Po) : TS := fun D σ H => ∃ s T ρ, M s ∧ P.b ≤ ρ.length ∧ Sat K s σ ρ T H ∧ Meets K P (ρ.take P.b) T D
def ZS (X : Cx) (st : Stmt) (s : S) (P : Po) : Prop := PS X st (tS X.K (fun t => t = s) P)
def ZSs (X : Cx) (sts : List Stmt) (s : S) (P : Po) : Prop := PSs X sts (tS X.K (fun t => t = s) P)

section
variable {X : Cx} {e a b c : Expr} {es : List Expr} {s s' s1 s2 s3 : S} {r r1 r2 : SD} {rs : List SD} {pos : Pos}
theorem PE.imp {t t' : TE} (h : PE X e t) (i : ∀ σ H Q, t' σ H Q → t σ H Q) : PE X e t' := ⟨fun pins s σ H Q I q => h.run pins s σ H Q I (i σ H Q q)⟩
theorem PT.imp {t t' : TT} (h : PT X e t) (i : ∀ σ H Q, t' σ H Q → t σ H Q) : PT X e t' := ⟨fun pins s σ H Q I q => h.run pins s σ H Q I (i σ H Q q)⟩
theorem PW.imp {t t' : TT} (h : PW X e t) (i : ∀ σ H Q, t' σ H Q → t σ H Q) : PW X e t' := ⟨fun w pins s σ H Q I q => h.run w pins s σ H Q I (i σ H Q q)⟩
theorem PA.imp {t t' : TA} (h : PA X es t) (i : ∀ σ H Q, t' σ H Q → t σ H Q) : PA X es t' := ⟨fun pos pins s σ H Q I q => h.run pos pins s σ H Q I (i σ H Q q)⟩
theorem PS.imp {st : Stmt} {t t' : TS} (h : PS X st t) (i : ∀ D σ H, t' D σ H → t D σ H) : PS X st t' := ⟨fun pins s σ H D I q => h.run pins s σ H D I (i D σ H q)⟩
theorem PSs.imp {st : List Stmt} {t t' : TS} (h : PSs X st t) (i : ∀ D σ H, t' D σ H → t D σ H) : PSs X st t' := ⟨fun pins s σ H D I q => h.run pins s σ H D I (i D σ H q)⟩
theorem pre_refl (ρ : List V) : ρ <+: ρ := List.prefix_rfl
/-- the families -/
theorem zss_all {sts : List Stmt} {M : S → Prop} {P : Po} (h : ∀ t, M t → ZSs X sts t P) : PSs X sts (tS X.K M P) :=
  ⟨fun pins sh σ H D I ⟨t, T, ρ, m, hb, g, q⟩ => (h t m).run pins sh σ H D I ⟨t, T, ρ, rfl, hb, g, q⟩⟩
theorem ZE.to (h : ZE X e s r s') (e1 : r = r1) (e2 : s' = s1) : ZE X e s r1 s1 := by subst e1 e2; exact h
theorem ZT.imp {R R' : Bool → S → Prop} (h : ZT X e s R) (i : ∀ b t, R b t → R' b t) : ZT X e s R' :=
  PT.imp h fun σ H Q ⟨T, ρ, g, q⟩ => ⟨T, ρ, g, fun b t ρ' H' hr p g' => q b t ρ' H' (i b t hr) p g'⟩
theorem ZW.imp {R R' : Bool → S → Prop} (h : ZW X e s R) (i : ∀ b t, R b t → R' b t) : ZW X e s R' :=
  PW.imp h fun σ H Q ⟨T, ρ, g, q⟩ => ⟨T, ρ, g, fun b t ρ' H' hr p g' => q b t ρ' H' (i b t hr) p g'⟩
theorem ZW.t {R : Bool → S → Prop} (h : ZW X e s R) : ZT X e s R := PW.pt h

/-! ### names, constants -/
theorem ze_var (i : Nat) {x : Str} (hr : s.e[i]? = some r) (nu : r ≠ .un := by intro h; cases h) (hN : X.N[i]? = some x := by rfl) (hv : Vis X.env.scope x := by first | exact Or.inl rfl | exact Or.inr (Or.inl rfl) | exact Or.inr (Or.inr rfl))
    (hd : (x == ("__debug__" : Str)) = false := by decide) (hcd : (x == ("__classdict__" : Str)) = false := by decide) : ZE X (.Name x pos) s r s := by
  refine PE.imp (pe_var hN hv hd hcd) fun σ H Q ⟨T, ρ, g, q⟩ => ?_
  cases r with
  | un => exact absurd rfl nu
  | d x =>
    obtain ⟨v, e1, g'⟩ := g.slot hr
    exact ⟨v, e1, q v ρ H (pre_refl ρ) trivial g'⟩
  | r j =>
    obtain ⟨v, e1, e2⟩ := g.al i j hr
    exact ⟨v, e1, q v ρ H (pre_refl ρ) e2 g.tun⟩
theorem ze_int {i : Int} {j : Nat} : ZE X (.Constant (.int i) j pos) s (.d (.int i)) s := PE.imp pe_int fun σ H Q ⟨T, ρ, g, q⟩ => q _ ρ H (pre_refl ρ) trivial (g.tflat (show flat (.int i) (.int i) from rfl))
theorem ze_bl {i : Bool} {j : Nat} : ZE X (.Constant (.bool i) j pos) s (.d (.bool i)) s := PE.imp pe_bl fun σ H Q ⟨T, ρ, g, q⟩ => q _ ρ H (pre_refl ρ) trivial (g.tflat (show flat (.bl i) (.bool i) from rfl))
theorem ze_str {i : Str} {j : Nat} : ZE X (.Constant (.str i) j pos) s (.d (.str i)) s := PE.imp pe_str fun σ H Q ⟨T, ρ, g, q⟩ => q _ ρ H (pre_refl ρ) trivial (g.tflat (show flat (.str i) (.str i) from rfl))
theorem ze_non {j : Nat} : ZE X (.Constant .none j pos) s (.d .none) s := PE.imp pe_non fun σ H Q ⟨T, ρ, g, q⟩ => q _ ρ H (pre_refl ρ) trivial (g.tflat (show flat .non .none from trivial))
theorem ze_glob {x : Str} {v : V} {u : Value} {d : PyData} (hm : X.mg x = some u) (rv : RelV v u) (f : flat v d) (hg : Gl X x := by rfl) (hd : (x == ("__debug__" : Str)) = false := by decide) : ZE X (.Name x pos) s (.d d) s :=
  PE.imp (pe_glob hg hm rv hd) fun σ H Q ⟨T, ρ, g, q⟩ => q _ ρ H (pre_refl ρ) trivial (g.tflat f)

/-! ### argument lists, displays -/
theorem za_nil : ZA X [] s [] s := PA.imp pa_nil fun σ H Q ⟨T, ρ, g, q⟩ => q [] ρ H (pre_refl ρ) ⟨rfl, fun _ _ _ h => by simp at h⟩ g
theorem za_cons (h1 : ZE X e s r s1) (h2 : ZA X es s1 rs s2) (hs : starEach (e :: es) X.env = (false, eval e X.env) :: starEach es X.env := by rfl) : ZA X (e :: es) s (r :: rs) s2 := by
  refine PA.imp (pa_cons h1 h2 hs) fun σ H Q ⟨T, ρ, g, q⟩ => ?_
  refine ⟨T, ρ, g, fun v ρ1 H1 p1 vr g1 => ⟨(itOf r, some v) :: T, ρ1, g1, fun vs ρ2 H2 p2 vrs g2 => q (v :: vs) ρ2 H2 (p1.trans p2) ⟨by simp [vrs.1], fun i r' v' e1 e2 => ?_⟩ ?_⟩⟩
  · cases i with
    | zero => simp at e1 e2; subst e1 e2; exact vr.mono p2
    | succ i => exact vrs.2 i r' v' (by simpa using e1) (by simpa using e2)
  · refine g2.tperm ?_
    exact List.perm_middle
theorem its_d : ∀ {ds : List PyData} {vs : List V}, its (ds.map .d) vs = ds2 ds vs
  | [], _ => rfl
  | _ :: _, [] => rfl
  | d :: ds, v :: vs => by
    show _ :: its (ds.map .d) vs = _ :: ds2 ds vs
    rw [its_d]; rfl
theorem fz_ds {K : PySem.W.Frag} {F H : Hp} : ∀ {ds : List PyData} {vs : List V} {l : List En}, ds.length = vs.length → Fz K F (ds2 ds vs ++ l) H → DpAll K F vs ds := fun hl ⟨L, e, g⟩ => held_ds hl e g
theorem ze_tup {ds : List PyData} {k : Nat} (h : ZA X es s (ds.map .d) s') (hz : ds.length ≤ sizeLine := by exact Nat.le_of_ble_eq_true rfl) : ZE X (.Tuple es k pos) s (.d (.tuple ds)) s' := by
  refine PE.imp (pe_tup h) fun σ H Q ⟨T, ρ, g, q⟩ => ?_
  refine ⟨T, ρ, g, fun vs ρ1 H1 p1 vrs g1 => ?_⟩
  have hl : ds.length = vs.length := by have := vrs.1; simpa using this
  refine ⟨by omega, fun p hp => q _ ρ1 _ p1 trivial ?_⟩
  rw [its_d] at g1
  have ok : OK X.K (ds2 ds vs ++ (T ++ (ES s'.e σ ++ RS s'.R ρ1))) H1 := by rw [← List.append_assoc]; exact g1.ok
  obtain ⟨F, f⟩ := ok.fz
  have t := f.tup (fz_ds hl f) hp
  exact ⟨g1.le, g1.lr, g1.al, (t.perm (List.perm_middle.symm)).right⟩
/-- a list, kept for good -/
theorem ze_lstD {ds : List PyData} (h : ZA X es s (ds.map .d) s') (hz : ds.length ≤ sizeLine := by exact Nat.le_of_ble_eq_true rfl) : ZE X (.List es pos) s (.d (.list ds)) s' := by
  refine PE.imp (pe_lst h) fun σ H Q ⟨T, ρ, g, q⟩ => ?_
  refine ⟨T, ρ, g, fun vs ρ1 H1 p1 vrs g1 => ?_⟩
  have hl : ds.length = vs.length := by have := vrs.1; simpa using this
  refine ⟨by omega, fun p hp => q _ ρ1 _ p1 trivial ?_⟩
  rw [its_d] at g1
  have ok : OK X.K (ds2 ds vs ++ (T ++ (ES s'.e σ ++ RS s'.R ρ1))) H1 := by rw [← List.append_assoc]; exact g1.ok
  obtain ⟨F, f⟩ := ok.fz
  have t := f.lstD (fz_ds hl f) hp
  exact ⟨g1.le, g1.lr, g1.al, (t.perm (List.perm_middle.symm)).right⟩
/-- a list of its own -/
theorem ze_lst {ds : List PyData} (h : ZA X es s (ds.map .d) s') (hz : ds.length ≤ sizeLine := by exact Nat.le_of_ble_eq_true rfl) : ZE X (.List es pos) s (.r s'.R.length) ⟨s'.e, s'.R ++ [OL ds]⟩ := by
  refine PE.imp (pe_lst h) fun σ H Q ⟨T, ρ, g, q⟩ => ?_
  refine ⟨T, ρ, g, fun vs ρ1 H1 p1 vrs g1 => ?_⟩
  have hl : ds.length = vs.length := by have := vrs.1; simpa using this
  refine ⟨by omega, fun p hp => q _ (ρ1 ++ [.ref p]) _ (p1.trans (List.prefix_append _ _)) ?_ (Sat.tun ?_)⟩
  · show (ρ1 ++ [V.ref p])[s'.R.length]? = some (.ref p)
    rw [g1.lr, List.getElem?_append_right (Nat.le_refl _), Nat.sub_self]
    rfl
  · rw [its_d] at g1
    have ok : OK X.K (ds2 ds vs ++ (T ++ (ES s'.e σ ++ RS s'.R ρ1))) H1 := by rw [← List.append_assoc]; exact g1.ok
    obtain ⟨F, f⟩ := ok.fz
    have t := f.lstO (fz_ds hl f) hp
    exact Sat.push ((t.perm (List.perm_middle.symm)).right) g1.le g1.lr g1.al

/-! ### what a value is seen as -/
inductive Vw (s : S) : SD → PyData → Prop
  | d (x : PyData) : Vw s (.d x) x
  | r {j : Nat} {ds : List PyData} : s.R[j]? = some (OL ds) → Vw s (.r j) (.list ds)
section
variable {K : PySem.W.Frag} {σ : L2.St} {ρ : List V} {T : List En} {H : Hp} {v : V} {x : PyData}
/-- .. as it stands in the heap -/
theorem Sat.see (g : Sat K s σ ρ T H) (m : (itOf r, some v) ∈ T) (vr : VR r ρ v) (w : Vw s r x) : Dp K H v x := by
  cases w with
  | d x =>
    obtain ⟨u, e1, h, _⟩ := g.ok.dup (List.mem_append_left _ m)
    cases e1
    exact h
  | r e =>
    rename_i j ds
    obtain ⟨w, e2, ok, _⟩ := g.obj e
    have ev : w = v := Option.some.inj (e2.symm.trans vr)
    subst ev
    obtain ⟨F, f⟩ := ok.fz
    obtain ⟨u, fp, e3, p, vs, e4, e5, e6, e7⟩ := f.own List.mem_cons_self
    cases e3
    subst e4
    exact .lst (.of e6) (dpsUp f.ext _ _ e7)
/-- the items of a list: they are kept for good -/
theorem Sat.seeL {ds : List PyData} (g : Sat K s σ ρ T H) (m : (itOf r, some v) ∈ T) (vr : VR r ρ v) (w : Vw s r (.list ds)) :
    ∃ F p vs, v = .ref p ∧ SqL K H p vs ∧ DpAll K F vs ds ∧ Fz K F (T ++ (ES s.e σ ++ RS s.R ρ)) H := by
  obtain ⟨F, f⟩ := g.ok.fz
  cases w with
  | d x =>
    obtain ⟨u, e1, h⟩ := f.at (List.mem_append_left _ m)
    cases e1
    cases h with
    | lst hs ha => exact ⟨F, _, _, rfl, f.ext.l hs, ha, f⟩
  | r e =>
    rename_i j
    obtain ⟨w, e2⟩ := get_of_len g.lr e
    have ev : w = v := Option.some.inj (e2.symm.trans vr)
    subst ev
    have m2 : (IT.o (OL ds), some w) ∈ T ++ (ES s.e σ ++ RS s.R ρ) := List.mem_append_right _ (List.mem_append_right _ (List.mem_of_getElem? (rs_get e e2)))
    obtain ⟨u, fp, e3, p, vs, e4, e5, e6, e7⟩ := f.own m2
    cases e3
    exact ⟨F, p, vs, e4, .of e6, e7, f⟩
theorem Sat.seeT {ds : List PyData} (g : Sat K s σ ρ T H) (m : (itOf r, some v) ∈ T) (w : Vw s r (.tuple ds)) :
    ∃ F p vs, v = .ref p ∧ SqT K H p vs ∧ DpAll K F vs ds ∧ Fz K F (T ++ (ES s.e σ ++ RS s.R ρ)) H := by
  obtain ⟨F, f⟩ := g.ok.fz
  cases w with
  | d x =>
    obtain ⟨u, e1, h⟩ := f.at (List.mem_append_left _ m)
    cases e1
    cases h with
    | tup hs ha => exact ⟨F, _, _, rfl, f.ext.t hs, ha, f⟩
theorem Sat.of (g : Sat K s σ ρ T H) {T' : List En} {H' : Hp} (h : OK K (T' ++ (ES s.e σ ++ RS s.R ρ)) H') : Sat K s σ ρ T' H' := ⟨g.le, g.lr, g.al, h⟩
/-- two at the top of T go -/
theorem Sat.out2 {x y z : En} (g : Sat K s σ ρ (x :: y :: T) H) {H' : Hp} (h : OK K (z :: (x :: y :: T ++ (ES s.e σ ++ RS s.R ρ))) H') : Sat K s σ ρ (z :: T) H' :=
  Sat.of g ((h.perm ((List.perm_append_comm (l₁ := [z]) (l₂ := [x, y])).append_right (T ++ (ES s.e σ ++ RS s.R ρ)))).right (k := [x, y]))
theorem Sat.out1 {x z : En} (g : Sat K s σ ρ (x :: T) H) {H' : Hp} (h : OK K (z :: (x :: T ++ (ES s.e σ ++ RS s.R ρ))) H') : Sat K s σ ρ (z :: T) H' :=
  Sat.of g ((h.perm (List.Perm.swap x z _)).right (k := [x]))
end

/-! ### operations by what they do -/
/-- two values in, one out -/
def Bi (K : PySem.W.Frag) (q : R2) (s : S) (a b z : SD) (s' : S) : Prop := ∀ u w T σ ρ H Q, Sat K s σ ρ ((itOf b, some w) :: (itOf a, some u) :: T) H → VR a ρ u → VR b ρ w →
  (∀ v ρ' H', ρ <+: ρ' → VR z ρ' v → Sat K s' σ ρ' ((itOf z, some v) :: T) H' → Q v H') → q u w H Q
def Un1 (K : PySem.W.Frag) (q : V → Hp → VK → Prop) (s : S) (a z : SD) (s' : S) : Prop := ∀ u T σ ρ H Q, Sat K s σ ρ ((itOf a, some u) :: T) H → VR a ρ u →
  (∀ v ρ' H', ρ <+: ρ' → VR z ρ' v → Sat K s' σ ρ' ((itOf z, some v) :: T) H' → Q v H') → q u H Q
def Ca (K : PySem.W.Frag) (q : List V → Hp → VK → Prop) (s : S) (as : List SD) (z : SD) (s' : S) : Prop := ∀ us T σ ρ H Q, Sat K s σ ρ (its as us ++ T) H → VRs as ρ us →
  (∀ v ρ' H', ρ <+: ρ' → VR z ρ' v → Sat K s' σ ρ' ((itOf z, some v) :: T) H' → Q v H') → q us H Q
variable {z : SD}
theorem bi_run {q : R2} {ra rb : SD} (hq : Bi X.K q s2 ra rb z s3) : ∀ σ H Q, tE X.K s z s3 σ H Q → tOp q (tE X.K s ra s1) (tE X.K s1 rb s2) σ H Q := fun σ H Q ⟨T, ρ, g, k⟩ =>
  ⟨T, ρ, g, fun u ρ1 H1 p1 vr1 g1 => ⟨_, ρ1, g1, fun w ρ2 H2 p2 vr2 g2 => hq u w T σ ρ2 H2 Q g2 (vr1.mono p2) vr2 fun v ρ3 H3 p3 vr3 g3 => k v ρ3 H3 ((p1.trans p2).trans p3) vr3 g3⟩⟩
theorem ze_op {op : Operator} {q : R2} {ra rb : SD} (ho : OpR X (binaryOp op) q) (ha : ZE X a s ra s1) (hb : ZE X b s1 rb s2) (hq : Bi X.K q s2 ra rb z s3) : ZE X (.BinOp a op b pos) s z s3 := PE.imp (pe_op ho ha hb) (bi_run hq)
theorem ze_un {op : UnaryOp} {q : V → Hp → VK → Prop} {ra : SD} (ho : UnR X (unaryOp op) q) (ha : ZE X a s ra s1) (hq : Un1 X.K q s1 ra z s3) : ZE X (.UnaryOp op a pos) s z s3 :=
  PE.imp (pe_un ho ha) fun σ H Q ⟨T, ρ, g, k⟩ => ⟨T, ρ, g, fun u ρ1 H1 p1 vr1 g1 => hq u T σ ρ1 H1 Q g1 vr1 fun v ρ3 H3 p3 vr3 g3 => k v ρ3 H3 (p1.trans p3) vr3 g3⟩
theorem ze_cmp {op : CmpOp} {q : R2} {ra rb : SD} (ho : OpR X (compareOp op) q) (ha : ZE X a s ra s1) (hb : ZE X b s1 rb s2) (hq : Bi X.K q s2 ra rb z s3) (hm : behindInMarks op b = false) : ZE X (.Compare a [op] [b] pos) s z s3 := PE.imp (pe_cmpR ho ha hb hm) (bi_run hq)
theorem zt_cmp {op : CmpOp} {q : R2} {ra rb : SD} {k : Bool} (ho : OpR X (compareOp op) q) (ha : ZE X a s ra s1) (hb : ZE X b s1 rb s2) (hq : Bi X.K q s2 ra rb (.d (.bool k)) s3) (hm : behindInMarks op b = false) : ZT X (.Compare a [op] [b] pos) s (Is k s3) := by
  refine PT.imp (pt_cmpR ho ha hb hm) fun σ H Q ⟨T, ρ, g, q'⟩ => ?_
  refine bi_run (z := .d (.bool k)) hq σ H _ ⟨T, ρ, g, fun v ρ' H' p vr g' => ?_⟩
  obtain ⟨u, e1, h, _⟩ := g'.ok.dup (x := .bool k) (List.mem_append_left _ List.mem_cons_self)
  cases e1
  cases h
  exact ⟨k, rfl, q' k s3 ρ' H' ⟨rfl, rfl⟩ p g'.tdrop⟩
/-- scalars -/
theorem see_int {K : PySem.W.Frag} {σ : L2.St} {ρ : List V} {T : List En} {H : Hp} {v : V} {i : Int} (g : Sat K s σ ρ T H) (m : (itOf (.d (.int i)), some v) ∈ T) : v = .int i := by
  have h := g.see (r := .d (.int i)) m trivial (.d _)
  cases h
  rfl
theorem bi_int {K : PySem.W.Frag} {f : Int → Int → V} {i j : Int} {zd : PyData} (hz : flat (f i j) zd) : Bi K (rI0 f) s (.d (.int i)) (.d (.int j)) (.d zd) s := fun u w T σ ρ H Q g _ _ k => by
  have e1 := see_int (i := j) (v := w) g List.mem_cons_self
  have e2 := see_int (i := i) (v := u) g (List.mem_cons_of_mem _ List.mem_cons_self)
  subst e1 e2
  exact ⟨i, j, rfl, rfl, k _ ρ H (pre_refl ρ) trivial (g.tdrop.tdrop.tflat hz)⟩
theorem bi_intC {K : PySem.W.Frag} {C : Int → Int → Prop} {f : Int → Int → V} {i j : Int} {zd : PyData} (hc : C i j) (hz : flat (f i j) zd) : Bi K (rI C f) s (.d (.int i)) (.d (.int j)) (.d zd) s := fun u w T σ ρ H Q g _ _ k => by
  have e1 := see_int (i := j) (v := w) g List.mem_cons_self
  have e2 := see_int (i := i) (v := u) g (List.mem_cons_of_mem _ List.mem_cons_self)
  subst e1 e2
  exact ⟨i, j, rfl, rfl, hc, k _ ρ H (pre_refl ρ) trivial (g.tdrop.tdrop.tflat hz)⟩
variable {i j : Int}
theorem ze_add (ha : ZE X a s (.d (.int i)) s1) (hb : ZE X b s1 (.d (.int j)) s2) : ZE X (.BinOp a .Add b pos) s (.d (.int (i + j))) s2 := ze_op op_add ha hb (bi_int (show flat (.int _) (.int _) from rfl))
theorem ze_sub (ha : ZE X a s (.d (.int i)) s1) (hb : ZE X b s1 (.d (.int j)) s2) : ZE X (.BinOp a .Sub b pos) s (.d (.int (i - j))) s2 := ze_op op_sub ha hb (bi_int (show flat (.int _) (.int _) from rfl))
theorem ze_mulW (hc : CMulW i j) (ha : ZE X a s (.d (.int i)) s1) (hb : ZE X b s1 (.d (.int j)) s2) : ZE X (.BinOp a .Mult b pos) s (.d (.int (i * j))) s2 := ze_op op_mulW ha hb (bi_intC hc (show flat (.int _) (.int _) from rfl))
theorem ze_mul (hc : CMul i j) (ha : ZE X a s (.d (.int i)) s1) (hb : ZE X b s1 (.d (.int j)) s2) : ZE X (.BinOp a .Mult b pos) s (.d (.int (i * j))) s2 := ze_op op_mul ha hb (bi_intC hc (show flat (.int _) (.int _) from rfl))
theorem ze_divW (hc : CDivW i j) (ha : ZE X a s (.d (.int i)) s1) (hb : ZE X b s1 (.d (.int j)) s2) : ZE X (.BinOp a .FloorDiv b pos) s (.d (.int (i / j))) s2 := ze_op op_fdivW ha hb (bi_intC hc (show flat (.int _) (.int _) from rfl))
theorem ze_div (hc : CDiv i j) (ha : ZE X a s (.d (.int i)) s1) (hb : ZE X b s1 (.d (.int j)) s2) : ZE X (.BinOp a .FloorDiv b pos) s (.d (.int (i / j))) s2 := ze_op op_fdiv ha hb (bi_intC hc (show flat (.int _) (.int _) from rfl))
theorem ze_mod (hc : 0 < j) (ha : ZE X a s (.d (.int i)) s1) (hb : ZE X b s1 (.d (.int j)) s2) : ZE X (.BinOp a .Mod b pos) s (.d (.int (i % j))) s2 := ze_op op_mod ha hb (bi_intC hc (show flat (.int _) (.int _) from rfl))
theorem ze_xor (ha : ZE X a s (.d (.int i)) s1) (hb : ZE X b s1 (.d (.int j)) s2) : ZE X (.BinOp a .BitXor b pos) s (.d (.int (Builtin.bitXor i j))) s2 := ze_op op_xor ha hb (bi_int (show flat (.int _) (.int _) from rfl))
theorem ze_neg (ha : ZE X a s (.d (.int i)) s1) : ZE X (.UnaryOp .USub a pos) s (.d (.int (-i))) s1 := ze_un un_neg ha fun u T σ ρ H Q g _ k => by
  have e2 := see_int (i := i) (v := u) g List.mem_cons_self
  subst e2
  exact ⟨i, rfl, k _ ρ H (pre_refl ρ) trivial (g.tdrop.tflat (show flat (.int _) (.int _) from rfl))⟩
theorem ze_lt (ha : ZE X a s (.d (.int i)) s1) (hb : ZE X b s1 (.d (.int j)) s2) : ZE X (.Compare a [.Lt] [b] pos) s (.d (.bool (decide (i < j)))) s2 := ze_cmp op_lt ha hb (bi_int (show flat (.bl _) (.bool _) from rfl)) (nomark _)
theorem ze_le (ha : ZE X a s (.d (.int i)) s1) (hb : ZE X b s1 (.d (.int j)) s2) : ZE X (.Compare a [.LtE] [b] pos) s (.d (.bool (decide (i ≤ j)))) s2 := ze_cmp op_le ha hb (bi_int (show flat (.bl _) (.bool _) from rfl)) (nomark _)
theorem ze_gt (ha : ZE X a s (.d (.int i)) s1) (hb : ZE X b s1 (.d (.int j)) s2) : ZE X (.Compare a [.Gt] [b] pos) s (.d (.bool (decide (j < i)))) s2 := ze_cmp op_gt ha hb (bi_int (show flat (.bl _) (.bool _) from rfl)) (nomark _)
theorem ze_ge (ha : ZE X a s (.d (.int i)) s1) (hb : ZE X b s1 (.d (.int j)) s2) : ZE X (.Compare a [.GtE] [b] pos) s (.d (.bool (decide (j ≤ i)))) s2 := ze_cmp op_ge ha hb (bi_int (show flat (.bl _) (.bool _) from rfl)) (nomark _)
theorem zt_lt (ha : ZE X a s (.d (.int i)) s1) (hb : ZE X b s1 (.d (.int j)) s2) : ZT X (.Compare a [.Lt] [b] pos) s (Is (decide (i < j)) s2) := zt_cmp op_lt ha hb (bi_int (show flat (.bl _) (.bool _) from rfl)) (nomark _)
theorem zt_le (ha : ZE X a s (.d (.int i)) s1) (hb : ZE X b s1 (.d (.int j)) s2) : ZT X (.Compare a [.LtE] [b] pos) s (Is (decide (i ≤ j)) s2) := zt_cmp op_le ha hb (bi_int (show flat (.bl _) (.bool _) from rfl)) (nomark _)
theorem zt_gt (ha : ZE X a s (.d (.int i)) s1) (hb : ZE X b s1 (.d (.int j)) s2) : ZT X (.Compare a [.Gt] [b] pos) s (Is (decide (j < i)) s2) := zt_cmp op_gt ha hb (bi_int (show flat (.bl _) (.bool _) from rfl)) (nomark _)
theorem zt_ge (ha : ZE X a s (.d (.int i)) s1) (hb : ZE X b s1 (.d (.int j)) s2) : ZT X (.Compare a [.GtE] [b] pos) s (Is (decide (j ≤ i)) s2) := zt_cmp op_ge ha hb (bi_int (show flat (.bl _) (.bool _) from rfl)) (nomark _)
/-- == and != of data of any depth -/
theorem bi_eq {K : PySem.W.Frag} {x y : PyData} {ra rb : SD} (wa : Vw s ra x) (wb : Vw s rb y) (hx : SeqAt.shaped x = true) (hy : SeqAt.shaped y = true) : Bi K (rEqD K) s ra rb (.d (.bool (PyData.eqv x y))) s := fun u w T σ ρ H Q g va vb k =>
  ⟨x, y, g.see (List.mem_cons_of_mem _ List.mem_cons_self) va wa, g.see List.mem_cons_self vb wb, hx, hy, k _ ρ H (pre_refl ρ) trivial (g.tdrop.tdrop.tflat (show flat (.bl _) (.bool _) from rfl))⟩
theorem bi_ne {K : PySem.W.Frag} {x y : PyData} {ra rb : SD} (wa : Vw s ra x) (wb : Vw s rb y) (hx : SeqAt.shaped x = true) (hy : SeqAt.shaped y = true) : Bi K (rNeD K) s ra rb (.d (.bool (!PyData.eqv x y))) s := fun u w T σ ρ H Q g va vb k =>
  ⟨x, y, g.see (List.mem_cons_of_mem _ List.mem_cons_self) va wa, g.see List.mem_cons_self vb wb, hx, hy, k _ ρ H (pre_refl ρ) trivial (g.tdrop.tdrop.tflat (show flat (.bl _) (.bool _) from rfl))⟩
variable {x y : PyData} {ra rb : SD}
theorem ze_eq (hu : X.A.units + 64 < cLine) (wa : Vw s2 ra x) (wb : Vw s2 rb y) (hx : SeqAt.shaped x = true) (hy : SeqAt.shaped y = true) (ha : ZE X a s ra s1) (hb : ZE X b s1 rb s2) : ZE X (.Compare a [.Eq] [b] pos) s (.d (.bool (PyData.eqv x y))) s2 := ze_cmp (op_eqD hu) ha hb (bi_eq wa wb hx hy) (nomark _)
theorem ze_ne (hu : X.A.units + 64 < cLine) (wa : Vw s2 ra x) (wb : Vw s2 rb y) (hx : SeqAt.shaped x = true) (hy : SeqAt.shaped y = true) (ha : ZE X a s ra s1) (hb : ZE X b s1 rb s2) : ZE X (.Compare a [.NotEq] [b] pos) s (.d (.bool (!PyData.eqv x y))) s2 := ze_cmp (op_neD hu) ha hb (bi_ne wa wb hx hy) (nomark _)
theorem zt_eq (hu : X.A.units + 64 < cLine) (wa : Vw s2 ra x) (wb : Vw s2 rb y) (hx : SeqAt.shaped x = true) (hy : SeqAt.shaped y = true) (ha : ZE X a s ra s1) (hb : ZE X b s1 rb s2) : ZT X (.Compare a [.Eq] [b] pos) s (Is (PyData.eqv x y) s2) := zt_cmp (op_eqD hu) ha hb (bi_eq wa wb hx hy) (nomark _)
theorem zt_ne (hu : X.A.units + 64 < cLine) (wa : Vw s2 ra x) (wb : Vw s2 rb y) (hx : SeqAt.shaped x = true) (hy : SeqAt.shaped y = true) (ha : ZE X a s ra s1) (hb : ZE X b s1 rb s2) : ZT X (.Compare a [.NotEq] [b] pos) s (Is (!PyData.eqv x y) s2) := zt_cmp (op_neD hu) ha hb (bi_ne wa wb hx hy) (nomark _)
end
end Z

namespace Z
open PySem L2
section
variable {X : Cx} {e a b c : Expr} {es : List Expr} {s s' s1 s2 s3 : S} {r r1 r2 : SD} {rs : List SD} {pos : Pos} {R : Bool → S → Prop} {k : Bool}

/-! ### tests -/
theorem zt_val (h : ZE X e s (.d (.bool k)) s') (he : ∀ whole, isTrue e X.env whole = (do let v ← whole; standAt e.pos; holding [v] (truthy v)) := by intro _; rfl) : ZT X e s (Is k s') := by
  refine PT.imp (pt_val h he) fun σ H Q ⟨T, ρ, g, q⟩ => ⟨T, ρ, g, fun v ρ' H' p vr g' => ?_⟩
  have d := g'.see (r := .d (.bool k)) List.mem_cons_self trivial (.d _)
  cases d
  exact ⟨k, rfl, q k s' ρ' H' ⟨rfl, rfl⟩ p g'.tdrop⟩
/-- a value's truth -/
def tru : PyData → Bool
  | .none => false
  | .bool b => b
  | .int i => i != 0
  | .str y => (y.length : Int) != 0
  | .list xs => !xs.isEmpty
  | .tuple xs => !xs.isEmpty
  | .dict _ => false
def truOk : PyData → Prop
  | .str y => y.length ≤ sizeLine
  | .dict _ => False
  | _ => True
theorem empty_len {α β : Type} {l : List α} {m : List β} (h : l.length = m.length) : l.isEmpty = m.isEmpty := by
  cases l <;> cases m <;> simp at h ⊢
theorem zt_tru {x : PyData} (h : ZE X e s r s') (w : Vw s' r x) (ok : truOk x) (he : ∀ whole, isTrue e X.env whole = (do let v ← whole; standAt e.pos; holding [v] (truthy v)) := by intro _; rfl) : ZT X e s (Is (tru x) s') := by
  refine PT.imp (pt_truth h he) fun σ H Q ⟨T, ρ, g, q⟩ => ⟨T, ρ, g, fun v ρ' H' p vr g' => ⟨tru x, ?_, q _ s' ρ' H' ⟨rfl, rfl⟩ p g'.tdrop⟩⟩
  have d := g'.see List.mem_cons_self vr w
  cases d with
  | non => exact rfl
  | bl b => exact rfl
  | int i => exact rfl
  | str y => exact ⟨ok, rfl⟩
  | lst hs ha => exact .inl ⟨_, hs, by show (!_) = (!_); rw [empty_len (dpsLen ha)]⟩
  | tup hs ha => exact .inr (.inl ⟨_, hs, by show (!_) = (!_); rw [empty_len (dpsLen ha)]⟩)
theorem zt_not (h : ZT X a s R) : ZT X (.UnaryOp .Not a pos) s (fun b t => R (!b) t) := by
  refine PT.imp (pt_not h) fun σ H Q ⟨T, ρ, g, q⟩ => ⟨T, ρ, g, fun b t ρ' H' hr p g' => q (!b) t ρ' H' (show R (!(!b)) t by rw [Bool.not_not]; exact hr) p g'⟩
theorem zt_notI (h : ZT X a s (Is k s')) : ZT X (.UnaryOp .Not a pos) s (Is (!k) s') := (zt_not h).imp fun b t ⟨h1, h2⟩ => ⟨by rw [← h1, Bool.not_not], h2⟩
theorem zw_all {M : S → Prop} (h : ∀ t, M t → ZW X e t R) : PW X e (fun σ H Q => ∃ t T ρ, M t ∧ Sat X.K t σ ρ T H ∧ ∀ b s' ρ' H', R b s' → ρ <+: ρ' → Sat X.K s' σ ρ' T H' → Q b H') :=
  ⟨fun w pins sh σ H Q I ⟨t, T, ρ, m, g, q⟩ => (h t m).run w pins sh σ H Q I ⟨T, ρ, g, q⟩⟩
theorem zw_and1 (h : ZT X a s R) : ZW X (.BoolOp .And [a] pos) s R := pw_and1 h
theorem zw_or1 (h : ZT X a s R) : ZW X (.BoolOp .Or [a] pos) s R := pw_or1 h
theorem zw_and {Ra : Bool → S → Prop} (h1 : ZT X a s Ra) (h2 : ∀ t, Ra true t → ZW X (.BoolOp .And (b :: es) pos) t R) (h3 : ∀ t, Ra false t → R false t) : ZW X (.BoolOp .And (a :: b :: es) pos) s R := by
  refine PW.imp (pw_and h1 (zw_all h2)) fun σ H Q ⟨T, ρ, g, q⟩ => ⟨T, ρ, g, fun b t ρ' H' hr p g' => ?_⟩
  cases b with
  | true => exact ⟨t, T, ρ', hr, g', fun b' s' ρ2 H2 hr' p' g2 => q b' s' ρ2 H2 hr' (p.trans p') g2⟩
  | false => exact q false t ρ' H' (h3 t hr) p g'
theorem zw_or {Ra : Bool → S → Prop} (h1 : ZT X a s Ra) (h2 : ∀ t, Ra false t → ZW X (.BoolOp .Or (b :: es) pos) t R) (h3 : ∀ t, Ra true t → R true t) : ZW X (.BoolOp .Or (a :: b :: es) pos) s R := by
  refine PW.imp (pw_or h1 (zw_all h2)) fun σ H Q ⟨T, ρ, g, q⟩ => ⟨T, ρ, g, fun b t ρ' H' hr p g' => ?_⟩
  cases b with
  | false => exact ⟨t, T, ρ', hr, g', fun b' s' ρ2 H2 hr' p' g2 => q b' s' ρ2 H2 hr' (p.trans p') g2⟩
  | true => exact q true t ρ' H' (h3 t hr) p g'
/-- .. where the answers are known and the state stays -/
theorem zw_andI {k j : Bool} (h1 : ZT X a s (Is k s)) (h2 : k = true → ZW X (.BoolOp .And (b :: es) pos) s (Is j s)) : ZW X (.BoolOp .And (a :: b :: es) pos) s (Is (k && j) s) := by
  refine zw_and h1 (fun t ⟨e1, e2⟩ => ?_) fun t ⟨e1, e2⟩ => ⟨by rw [← e1]; rfl, e2⟩
  subst e2
  rw [← e1]
  exact h2 e1.symm
theorem zw_orI {k j : Bool} (h1 : ZT X a s (Is k s)) (h2 : k = false → ZW X (.BoolOp .Or (b :: es) pos) s (Is j s)) : ZW X (.BoolOp .Or (a :: b :: es) pos) s (Is (k || j) s) := by
  refine zw_or h1 (fun t ⟨e1, e2⟩ => ?_) fun t ⟨e1, e2⟩ => ⟨by rw [← e1]; rfl, e2⟩
  subst e2
  rw [← e1]
  exact h2 e1.symm
/-- as values -/
theorem ze_one {op : BoolOp} (h : ZE X a s r s') : ZE X (.BoolOp op [a] pos) s r s' := pe_one h
theorem pe_noway {X : Cx} {e : Expr} : PE X e (fun _ _ _ => False) := ⟨fun _ _ _ _ _ _ h => h.elim⟩
theorem ze_and {k j : Bool} (h1 : ZE X a s (.d (.bool k)) s) (h2 : k = true → ZE X (.BoolOp .And (b :: es) pos) s (.d (.bool j)) s) : ZE X (.BoolOp .And (a :: b :: es) pos) s (.d (.bool (k && j))) s := by
  cases k with
  | true =>
    refine PE.imp (pe_and h1 (h2 rfl)) fun σ H Q ⟨T, ρ, g, q⟩ => ⟨T, ρ, g, fun v ρ' H' p vr g' => ?_⟩
    have d := g'.see (r := .d (.bool true)) List.mem_cons_self trivial (.d _)
    cases d
    exact ⟨true, rfl, _, ρ', g'.tdrop, fun v ρ2 H2 p2 vr2 g2 => q v ρ2 H2 (p.trans p2) vr2 g2⟩
  | false =>
    refine PE.imp (pe_and h1 pe_noway) fun σ H Q ⟨T, ρ, g, q⟩ => ⟨T, ρ, g, fun v ρ' H' p vr g' => ?_⟩
    have d := g'.see (r := .d (.bool false)) List.mem_cons_self trivial (.d _)
    cases d
    exact ⟨false, rfl, q _ ρ' H' p trivial g'⟩
theorem ze_or {k j : Bool} (h1 : ZE X a s (.d (.bool k)) s) (h2 : k = false → ZE X (.BoolOp .Or (b :: es) pos) s (.d (.bool j)) s) : ZE X (.BoolOp .Or (a :: b :: es) pos) s (.d (.bool (k || j))) s := by
  cases k with
  | false =>
    refine PE.imp (pe_or h1 (h2 rfl)) fun σ H Q ⟨T, ρ, g, q⟩ => ⟨T, ρ, g, fun v ρ' H' p vr g' => ?_⟩
    have d := g'.see (r := .d (.bool false)) List.mem_cons_self trivial (.d _)
    cases d
    exact ⟨false, rfl, _, ρ', g'.tdrop, fun v ρ2 H2 p2 vr2 g2 => q v ρ2 H2 (p.trans p2) vr2 g2⟩
  | true =>
    refine PE.imp (pe_or h1 pe_noway) fun σ H Q ⟨T, ρ, g, q⟩ => ⟨T, ρ, g, fun v ρ' H' p vr g' => ?_⟩
    have d := g'.see (r := .d (.bool true)) List.mem_cons_self trivial (.d _)
    cases d
    exact ⟨true, rfl, q _ ρ' H' p trivial g'⟩
theorem ze_not (h1 : ZE X a s (.d (.bool k)) s') : ZE X (.UnaryOp .Not a pos) s (.d (.bool (!k))) s' := by
  refine PE.imp (pe_not h1) fun σ H Q ⟨T, ρ, g, q⟩ => ⟨T, ρ, g, fun v ρ' H' p vr g' => ?_⟩
  have d := g'.see (r := .d (.bool k)) List.mem_cons_self trivial (.d _)
  cases d
  exact ⟨k, rfl, q _ ρ' H' p trivial (g'.tdrop.tflat (show flat (.bl _) (.bool _) from rfl))⟩
/-- x if test else y -/
theorem ze_ite (hc : ZT X c s (Is k s1)) (h1 : k = true → ZE X a s1 r s') (h2 : k = false → ZE X b s1 r s') : ZE X (.IfExp c a b pos) s r s' := by
  cases k with
  | true =>
    refine PE.imp (pe_ifExp hc (h1 rfl) pe_noway) fun σ H Q ⟨T, ρ, g, q⟩ => ⟨T, ρ, g, fun b' t ρ' H' ⟨e1, e2⟩ p g' => ?_⟩
    subst e1 e2
    exact ⟨T, ρ', g', fun v ρ2 H2 p2 vr2 g2 => q v ρ2 H2 (p.trans p2) vr2 g2⟩
  | false =>
    refine PE.imp (pe_ifExp hc pe_noway (h2 rfl)) fun σ H Q ⟨T, ρ, g, q⟩ => ⟨T, ρ, g, fun b' t ρ' H' ⟨e1, e2⟩ p g' => ?_⟩
    subst e1 e2
    exact ⟨T, ρ', g', fun v ρ2 H2 p2 vr2 g2 => q v ρ2 H2 (p.trans p2) vr2 g2⟩
theorem ze_iteI {i j : Int} (hc : ZT X c s (Is k s1)) (h1 : k = true → ZE X a s1 (.d (.int i)) s') (h2 : k = false → ZE X b s1 (.d (.int j)) s') : ZE X (.IfExp c a b pos) s (.d (.int (if k then i else j))) s' :=
  ze_ite hc (fun h => by subst h; exact h1 rfl) fun h => by subst h; exact h2 rfl
theorem ze_iteD {x y : PyData} (hc : ZT X c s (Is k s1)) (h1 : k = true → ZE X a s1 (.d x) s') (h2 : k = false → ZE X b s1 (.d y) s') : ZE X (.IfExp c a b pos) s (.d (if k then x else y)) s' :=
  ze_ite hc (fun h => by subst h; exact h1 rfl) fun h => by subst h; exact h2 rfl

/-! ### calls of built-ins -/
/-- how a call of a global name with these arguments is read -/
def Cl (X : Cx) (x : Str) (e : Expr) (es : List Expr) (pos : Pos) : Prop := Gl X x ∧ starEach (e :: es) X.env = (false, eval e X.env) :: starEach es X.env ∧ (backTo pos (starEach es X.env)).any (·.1) = false
theorem ze_callB {q : List V → Hp → VK → Prop} {id : String} {x : Str} {p : Pos} {z : SD} (hc : CallR X (.builtin id) q) (hv : bootBuiltins x = some (.builtin id)) (ha : ZA X (e :: es) s rs s1) (hm : X.mg x = none) (c : Cl X x e es pos) (hq : Ca X.K q s1 rs z s2) (hn : x ≠ "__name__" := by decide)
    (hdb : (x == ("__debug__" : Str)) = false := by decide) : ZE X (.Call (.Name x p) (e :: es) [] pos) s z s2 :=
  PE.imp (pe_callB hc c.1 hm hv ha hn hdb c.2.1 c.2.2) fun σ H Q ⟨T, ρ, g, k⟩ => ⟨T, ρ, g, fun us ρ1 H1 p1 vr1 g1 => hq us T σ ρ1 H1 Q g1 vr1 fun v ρ3 H3 p3 vr3 g3 => k v ρ3 H3 (p1.trans p3) vr3 g3⟩
theorem ze_callT {q : List V → Hp → VK → Prop} {id : String} {x : Str} {p : Pos} {z : SD} (hc : CallR X (.type id) q) (hv : bootBuiltins x = some (.type id)) (ha : ZA X (e :: es) s rs s1) (hm : X.mg x = none) (c : Cl X x e es pos) (hq : Ca X.K q s1 rs z s2) (hn : x ≠ "__name__" := by decide)
    (hdb : (x == ("__debug__" : Str)) = false := by decide) : ZE X (.Call (.Name x p) (e :: es) [] pos) s z s2 :=
  PE.imp (pe_callTy hc c.1 hm hv ha hn hdb c.2.1 c.2.2) fun σ H Q ⟨T, ρ, g, k⟩ => ⟨T, ρ, g, fun us ρ1 H1 p1 vr1 g1 => hq us T σ ρ1 H1 Q g1 vr1 fun v ρ3 H3 p3 vr3 g3 => k v ρ3 H3 (p1.trans p3) vr3 g3⟩
theorem vrs1 {ρ : List V} {us : List V} (h : VRs [r] ρ us) : ∃ u, us = [u] ∧ VR r ρ u := by
  obtain ⟨h1, h2⟩ := h
  match us, h1 with
  | [u], _ => exact ⟨u, rfl, h2 0 r u rfl rfl⟩
theorem vrs2 {ρ : List V} {us : List V} (h : VRs [r, r1] ρ us) : ∃ u w, us = [u, w] ∧ VR r ρ u ∧ VR r1 ρ w := by
  obtain ⟨h1, h2⟩ := h
  match us, h1 with
  | [u, w], _ => exact ⟨u, w, rfl, h2 0 r u rfl rfl, h2 1 r1 w rfl rfl⟩
def Ca1 (K : PySem.W.Frag) (q : List V → Hp → VK → Prop) (s : S) (a z : SD) (s' : S) : Prop := ∀ u T σ ρ H Q, Sat K s σ ρ ((itOf a, some u) :: T) H → VR a ρ u →
  (∀ v ρ' H', ρ <+: ρ' → VR z ρ' v → Sat K s' σ ρ' ((itOf z, some v) :: T) H' → Q v H') → q [u] H Q
theorem ca1 {q : List V → Hp → VK → Prop} {K : PySem.W.Frag} {z : SD} (h : Ca1 K q s r z s') : Ca K q s [r] z s' := fun us T σ ρ H Q g vr k => by
  obtain ⟨u, e, h1⟩ := vrs1 vr
  subst e
  exact h u T σ ρ H Q g h1 k
def Ca2 (K : PySem.W.Frag) (q : List V → Hp → VK → Prop) (s : S) (a b z : SD) (s' : S) : Prop := ∀ u w T σ ρ H Q, Sat K s σ ρ ((itOf a, some u) :: (itOf b, some w) :: T) H → VR a ρ u → VR b ρ w →
  (∀ v ρ' H', ρ <+: ρ' → VR z ρ' v → Sat K s' σ ρ' ((itOf z, some v) :: T) H' → Q v H') → q [u, w] H Q
theorem ca2 {q : List V → Hp → VK → Prop} {K : PySem.W.Frag} {z : SD} (h : Ca2 K q s r r1 z s') : Ca K q s [r, r1] z s' := fun us T σ ρ H Q g vr k => by
  obtain ⟨u, w, e, h1, h2⟩ := vrs2 vr
  subst e
  exact h u w T σ ρ H Q g h1 h2 k
variable {f p : Pos} {n : Nat} {i j : Int} {x y z : PyData} {ds : List PyData}
theorem ze_absI (ha : ZA X [a] s [.d (.int i)] s1) (hm : X.mg "abs" = none) (c : Cl X "abs" a [] pos := by exact ⟨rfl, rfl, rfl⟩) : ZE X (.Call (.Name "abs" p) [a] [] pos) s (.d (.int (if i < 0 then -i else i))) s1 :=
  ze_callB call_abs (by decide +kernel) ha hm c (ca1 fun u T σ ρ H Q g vr k => by
    have e1 := see_int (i := i) (v := u) g List.mem_cons_self
    subst e1
    exact ⟨i, rfl, k _ ρ H (pre_refl ρ) trivial (g.tdrop.tflat (show flat (.int _) (.int _) from rfl))⟩)
theorem ze_intI (ha : ZA X [a] s [.d (.int i)] s1) (hm : X.mg "int" = none) (c : Cl X "int" a [] pos := by exact ⟨rfl, rfl, rfl⟩) : ZE X (.Call (.Name "int" p) [a] [] pos) s (.d (.int i)) s1 :=
  ze_callT call_int1 (by decide +kernel) ha hm c (ca1 fun u T σ ρ H Q g vr k => by
    have e1 := see_int (i := i) (v := u) g List.mem_cons_self
    subst e1
    exact .inl ⟨i, rfl, k _ ρ H (pre_refl ρ) trivial (g.tdrop.tflat (show flat (.int _) (.int _) from rfl))⟩)
theorem ze_max2 (ha : ZA X [a, b] s [.d (.int i), .d (.int j)] s1) (hm : X.mg "max" = none) (hk : X.calm = true := by rfl) (c : Cl X "max" a [b] pos := by exact ⟨rfl, rfl, rfl⟩) : ZE X (.Call (.Name "max" p) [a, b] [] pos) s (.d (.int (if j > i then j else i))) s1 :=
  ze_callB (call_max2 hk) (by decide +kernel) ha hm c (ca2 fun u w T σ ρ H Q g _ _ k => by
    have e1 := see_int (i := i) (v := u) g List.mem_cons_self
    have e2 := see_int (i := j) (v := w) g (List.mem_cons_of_mem _ List.mem_cons_self)
    subst e1 e2
    exact ⟨i, j, rfl, k _ ρ H (pre_refl ρ) trivial (g.tdrop.tdrop.tflat (show flat (.int _) (.int _) from rfl))⟩)
theorem ze_min2 (ha : ZA X [a, b] s [.d (.int i), .d (.int j)] s1) (hm : X.mg "min" = none) (hk : X.calm = true := by rfl) (c : Cl X "min" a [b] pos := by exact ⟨rfl, rfl, rfl⟩) : ZE X (.Call (.Name "min" p) [a, b] [] pos) s (.d (.int (if j < i then j else i))) s1 :=
  ze_callB (call_min2 hk) (by decide +kernel) ha hm c (ca2 fun u w T σ ρ H Q g _ _ k => by
    have e1 := see_int (i := i) (v := u) g List.mem_cons_self
    have e2 := see_int (i := j) (v := w) g (List.mem_cons_of_mem _ List.mem_cons_self)
    subst e1 e2
    exact ⟨i, j, rfl, k _ ρ H (pre_refl ρ) trivial (g.tdrop.tdrop.tflat (show flat (.int _) (.int _) from rfl))⟩)
theorem ze_lenL (w : Vw s1 r (.list ds)) (ha : ZA X [a] s [r] s1) (hm : X.mg "len" = none) (c : Cl X "len" a [] pos := by exact ⟨rfl, rfl, rfl⟩) : ZE X (.Call (.Name "len" p) [a] [] pos) s (.d (.int (ds.length : Nat))) s1 :=
  ze_callB call_len_seq (by decide +kernel) ha hm c (ca1 fun u T σ ρ H Q g vr k => by
    obtain ⟨F, p, vs, e1, hs, hd, _⟩ := g.seeL List.mem_cons_self vr w
    subst e1
    exact ⟨p, vs, rfl, .inl hs, k _ ρ H (pre_refl ρ) trivial (g.tdrop.tflat (show flat (.int _) (.int _) by rw [dpsLen hd]; exact rfl))⟩)
theorem ze_lenT (w : Vw s1 r (.tuple ds)) (ha : ZA X [a] s [r] s1) (hm : X.mg "len" = none) (c : Cl X "len" a [] pos := by exact ⟨rfl, rfl, rfl⟩) : ZE X (.Call (.Name "len" p) [a] [] pos) s (.d (.int (ds.length : Nat))) s1 :=
  ze_callB call_len_seq (by decide +kernel) ha hm c (ca1 fun u T σ ρ H Q g vr k => by
    obtain ⟨F, p, vs, e1, hs, hd, _⟩ := g.seeT List.mem_cons_self w
    subst e1
    exact ⟨p, vs, rfl, .inr hs, k _ ρ H (pre_refl ρ) trivial (g.tdrop.tflat (show flat (.int _) (.int _) by rw [dpsLen hd]; exact rfl))⟩)
/-- tuple of a list; a list's copy, kept for good or of its own -/
theorem ze_tupOfL (w : Vw s1 r (.list ds)) (ha : ZA X [a] s [r] s1) (hm : X.mg "tuple" = none) (c : Cl X "tuple" a [] pos := by exact ⟨rfl, rfl, rfl⟩) : ZE X (.Call (.Name "tuple" p) [a] [] pos) s (.d (.tuple ds)) s1 :=
  ze_callT call_tuple_of (by decide +kernel) ha hm c (ca1 fun u T σ ρ H Q g vr k => by
    obtain ⟨F, p, vs, e1, hs, hd, f⟩ := g.seeL List.mem_cons_self vr w
    subst e1
    exact ⟨p, vs, rfl, .inl ⟨hs, fun l hl => k _ ρ _ (pre_refl ρ) trivial (g.out1 (f.tup hd hl))⟩⟩)
theorem ze_tupOfT (w : Vw s1 r (.tuple ds)) (ha : ZA X [a] s [r] s1) (hm : X.mg "tuple" = none) (c : Cl X "tuple" a [] pos := by exact ⟨rfl, rfl, rfl⟩) : ZE X (.Call (.Name "tuple" p) [a] [] pos) s (.d (.tuple ds)) s1 :=
  ze_callT call_tuple_of (by decide +kernel) ha hm c (ca1 fun u T σ ρ H Q g vr k => by
    cases w
    obtain ⟨F, p, vs, e1, hs, hd, f⟩ := g.seeT (r := .d (.tuple ds)) List.mem_cons_self (.d _)
    subst e1
    exact ⟨p, vs, rfl, .inr ⟨hs, k _ ρ _ (pre_refl ρ) trivial g⟩⟩)
theorem Sat.push1 {K : PySem.W.Frag} {σ : L2.St} {ρ : List V} {T : List En} {H H' : Hp} {P : Own} {v : V} {xx : En} (g : Sat K s σ ρ (xx :: T) H) (h : OK K ((IT.o P, some v) :: (xx :: T ++ (ES s.e σ ++ RS s.R ρ))) H') : Sat K ⟨s.e, s.R ++ [P]⟩ σ (ρ ++ [v]) T H' :=
  Sat.push ((h.perm (List.Perm.swap xx _ _)).right (k := [xx])) g.le g.lr g.al
theorem Sat.newVR {K : PySem.W.Frag} {σ : L2.St} {ρ : List V} {T : List En} {H : Hp} {v : V} (g : Sat K s σ ρ T H) : VR (.r s.R.length) (ρ ++ [v]) v := by
  show (ρ ++ [v])[s.R.length]? = some v
  rw [g.lr, List.getElem?_append_right (Nat.le_refl _), Nat.sub_self]
  rfl
theorem ze_listOfL (w : Vw s1 r (.list ds)) (ha : ZA X [a] s [r] s1) (hm : X.mg "list" = none) (c : Cl X "list" a [] pos := by exact ⟨rfl, rfl, rfl⟩) : ZE X (.Call (.Name "list" p) [a] [] pos) s (.d (.list ds)) s1 :=
  ze_callT call_list_of (by decide +kernel) ha hm c (ca1 fun u T σ ρ H Q g vr k => by
    obtain ⟨F, p, vs, e1, hs, hd, f⟩ := g.seeL List.mem_cons_self vr w
    subst e1
    exact ⟨p, vs, rfl, .inl hs, fun l hl => k _ ρ _ (pre_refl ρ) trivial (g.out1 (f.lstD hd hl))⟩)
theorem ze_listOfT (w : Vw s1 r (.tuple ds)) (ha : ZA X [a] s [r] s1) (hm : X.mg "list" = none) (c : Cl X "list" a [] pos := by exact ⟨rfl, rfl, rfl⟩) : ZE X (.Call (.Name "list" p) [a] [] pos) s (.d (.list ds)) s1 :=
  ze_callT call_list_of (by decide +kernel) ha hm c (ca1 fun u T σ ρ H Q g vr k => by
    obtain ⟨F, p, vs, e1, hs, hd, f⟩ := g.seeT List.mem_cons_self w
    subst e1
    exact ⟨p, vs, rfl, .inr hs, fun l hl => k _ ρ _ (pre_refl ρ) trivial (g.out1 (f.lstD hd hl))⟩)
/-! ### items, slices, sums of tuples -/
theorem atI_map {α β : Type} {f : α → β} {xs : List α} {i : Int} : atI (xs.map f) i = (atI xs i).map f := by
  unfold atI
  rw [List.length_map]
  cases ixN xs.length i with
  | none => rfl
  | some j => simp
theorem dps_atI {K : PySem.W.Frag} {F : Hp} {vs : List V} {i : Int} (h : DpAll K F vs ds) (e : atI ds i = some x) : ∃ v, atI vs i = some v ∧ Dp K F v x := by
  unfold atI at e ⊢
  rw [dpsLen h]
  cases q : ixN ds.length i with
  | none => rw [q] at e; cases e
  | some j =>
    rw [q] at e
    exact dpsGet h e
theorem ze_ixL (w : Vw s2 r (.list ds)) (ix : atI ds i = some x) (ha : ZE X a s r s1) (hb : ZE X b s1 (.d (.int i)) s2) (hs : PlainIx b := by intro _ _; rfl) : ZE X (.Subscript a b pos) s (.d x) s2 :=
  PE.imp (pe_ix ix_list ha hb hs) (bi_run fun u w' T σ ρ H Q g va vb k => by
    have e1 := see_int (i := i) (v := w') g List.mem_cons_self
    subst e1
    obtain ⟨F, p, vs, e1, hs, hd, f⟩ := g.seeL (List.mem_cons_of_mem _ List.mem_cons_self) va w
    subst e1
    obtain ⟨v, h1, h2⟩ := dps_atI hd ix
    exact ⟨p, vs, i, v, rfl, rfl, hs, h1, k v ρ H (pre_refl ρ) trivial (g.out2 (f.add h2).ok)⟩)
theorem ze_ixT (w : Vw s2 r (.tuple ds)) (ix : atI ds i = some x) (ha : ZE X a s r s1) (hb : ZE X b s1 (.d (.int i)) s2) (hs : PlainIx b := by intro _ _; rfl) : ZE X (.Subscript a b pos) s (.d x) s2 :=
  PE.imp (pe_ix ix_tup ha hb hs) (bi_run fun u w' T σ ρ H Q g va vb k => by
    have e1 := see_int (i := i) (v := w') g List.mem_cons_self
    subst e1
    obtain ⟨F, p, vs, e1, hs, hd, f⟩ := g.seeT (List.mem_cons_of_mem _ List.mem_cons_self) w
    subst e1
    obtain ⟨v, h1, h2⟩ := dps_atI hd ix
    exact ⟨p, vs, i, v, rfl, rfl, hs, h1, k v ρ H (pre_refl ρ) trivial (g.out2 (f.add h2).ok)⟩)
theorem bi_cat {K : PySem.W.Frag} {ds es : List PyData} (hz : ds.length + es.length ≤ sizeLine) : Bi K (rCatA K) s (.d (.tuple ds)) (.d (.tuple es)) (.d (.tuple (ds ++ es))) s := fun u w T σ ρ H Q g va vb k => by
  obtain ⟨F, f⟩ := g.ok.fz
  obtain ⟨u', e1, h1⟩ := f.at (x := .tuple ds) (v := some u) (List.mem_append_left _ (List.mem_cons_of_mem _ List.mem_cons_self))
  obtain ⟨w', e2, h2⟩ := f.at (x := .tuple es) (v := some w) (List.mem_append_left _ List.mem_cons_self)
  cases e1
  cases e2
  cases h1 with
  | tup hs ha =>
    cases h2 with
    | tup ht hb =>
      refine ⟨_, _, _, _, rfl, rfl, f.ext.t hs, f.ext.t ht, by rw [dpsLen ha, dpsLen hb]; exact hz, fun e => ?_, fun _ e => ?_, fun _ _ p hp => ?_⟩
      · subst e
        cases ha
        exact k _ ρ H (pre_refl ρ) trivial (g.out2 (f.add (x := .tuple ([] ++ es)) (.tup ht hb)).ok)
      · subst e
        cases hb
        exact k _ ρ H (pre_refl ρ) trivial (g.out2 (f.add (x := .tuple (ds ++ [])) (by rw [List.append_nil]; exact .tup hs ha)).ok)
      · exact k _ ρ _ (pre_refl ρ) trivial (g.out2 (f.tup (dpsApp ha hb) hp))
theorem ze_cat {ds es : List PyData} (hz : ds.length + es.length ≤ sizeLine) (ha : ZE X a s (.d (.tuple ds)) s1) (hb : ZE X b s1 (.d (.tuple es)) s2) : ZE X (.BinOp a .Add b pos) s (.d (.tuple (ds ++ es))) s2 := ze_op op_catA ha hb (bi_cat hz)
/-- a slice's part -/
def tP (K : PySem.W.Frag) (s : S) (o : Option Int) (s' : S) : TO := fun σ H Q => ∃ T ρ, Sat K s σ ρ T H ∧ ∀ ρ' H', ρ <+: ρ' → Sat K s' σ ρ' T H' → Q o H'
def ZP (X : Cx) (e : Option Expr) (s : S) (o : Option Int) (s' : S) : Prop := PO X e (tP X.K s o s')
theorem PO.imp {X : Cx} {e : Option Expr} {t t' : TO} (h : PO X e t) (i : ∀ σ H Q, t' σ H Q → t σ H Q) : PO X e t' := ⟨fun pins s σ H Q I q => h.run pins s σ H Q I (i σ H Q q)⟩
theorem zp_none : ZP X none s none s := PO.imp po_none fun σ H Q ⟨T, ρ, g, q⟩ => q ρ H (pre_refl ρ) g
theorem zp_some (h : ZE X e s (.d (.int i)) s1) : ZP X (some e) s (some i) s1 := PO.imp (po_some h) fun σ H Q ⟨T, ρ, g, q⟩ => ⟨T, ρ, g, fun v ρ' H' p vr g' => by
  have e1 := see_int (i := i) (v := v) g' List.mem_cons_self
  subst e1
  exact ⟨i, rfl, q ρ' H' p g'.tdrop⟩⟩
def cut (xs : List PyData) (lo hi : Option Int) : List PyData := (xs.drop (HT.sIx xs.length 0 lo)).take (HT.sIx xs.length xs.length hi - HT.sIx xs.length 0 lo)
theorem dps_cut {K : PySem.W.Frag} {F : Hp} {vs : List V} {lo hi : Option Int} (h : DpAll K F vs ds) : DpAll K F (cutV vs lo hi) (cut ds lo hi) := by
  unfold cutV cut
  rw [dpsLen h]
  exact dpsTake _ (dpsDrop _ h)
variable {lo hi : Option Expr} {l u : Option Int} {p2 : Pos}
theorem ze_slL (w : Vw s3 r (.list ds)) (ha : ZE X a s r s1) (hl : ZP X lo s1 l s2) (hu : ZP X hi s2 u s3) : ZE X (.Subscript a (.Slice lo hi none p2) pos) s (.d (.list (cut ds l u))) s3 :=
  PE.imp (pe_slice sl_list ha hl hu) fun σ H Q ⟨T, ρ, g, k⟩ => ⟨T, ρ, g, fun v ρ1 H1 p1 vr1 g1 => ⟨_, ρ1, g1, fun ρ2 H2 p2 g2 => ⟨_, ρ2, g2, fun ρ3 H3 p3 g3 => by
    obtain ⟨F, p, vs, e1, hs, hd, f⟩ := g3.seeL List.mem_cons_self ((vr1.mono p2).mono p3) w
    subst e1
    exact ⟨p, vs, rfl, hs, fun q hq => k _ ρ3 _ ((p1.trans p2).trans p3) trivial (g3.out1 (f.lstD (dps_cut hd) hq))⟩⟩⟩⟩
theorem ze_slT (w : Vw s3 r (.tuple ds)) (ha : ZE X a s r s1) (hl : ZP X lo s1 l s2) (hu : ZP X hi s2 u s3) : ZE X (.Subscript a (.Slice lo hi none p2) pos) s (.d (.tuple (cut ds l u))) s3 :=
  PE.imp (pe_slice sl_tupA ha hl hu) fun σ H Q ⟨T, ρ, g, k⟩ => ⟨T, ρ, g, fun v ρ1 H1 p1 vr1 g1 => ⟨_, ρ1, g1, fun ρ2 H2 p2 g2 => ⟨_, ρ2, g2, fun ρ3 H3 p3 g3 => by
    obtain ⟨F, p, vs, e1, hs, hd, f⟩ := g3.seeT List.mem_cons_self w
    subst e1
    refine ⟨p, vs, rfl, hs, fun ⟨z1, z2⟩ => ?_, fun _ q hq => k _ ρ3 _ ((p1.trans p2).trans p3) trivial (g3.out1 (f.tup (dps_cut hd) hq))⟩
    have e : cut ds l u = ds := by
      unfold cut
      rw [dpsLen hd] at z1 z2
      rw [z1, z2]
      simp
    cases w
    exact k _ ρ3 _ ((p1.trans p2).trans p3) trivial (by rw [e]; exact g3)⟩⟩⟩
end
end Z

namespace Z
open PySem L2

/-! ### less is known -/
def wkE : List SD → List SD → Prop
  | [], [] => True
  | a :: l, b :: m => (b = a ∨ b = .un) ∧ wkE l m
  | _, _ => False
/-- no reference at n or beyond -/
def low (n : Nat) : List SD → Prop
  | [] => True
  | .r j :: l => j < n ∧ low n l
  | _ :: l => low n l
theorem wkE_len : ∀ {l m : List SD}, wkE l m → m.length = l.length
  | [], [], _ => rfl
  | a :: l, b :: m, h => by simp [wkE_len h.2]
  | [], _ :: _, h => h.elim
  | _ :: _, [], h => h.elim
theorem wkE_get : ∀ {l m : List SD}, wkE l m → ∀ {i : Nat} {b : SD}, m[i]? = some b → ∃ a, l[i]? = some a ∧ (b = a ∨ b = .un)
  | [], [], _, i, b, e => by simp at e
  | a :: l, b :: m, h, 0, c, e => by simp at e; subst e; exact ⟨a, rfl, h.1⟩
  | a :: l, b :: m, h, i + 1, c, e => by
    rw [List.getElem?_cons_succ] at e
    obtain ⟨x, h1, h2⟩ := wkE_get h.2 e
    exact ⟨x, by rw [List.getElem?_cons_succ]; exact h1, h2⟩
  | [], _ :: _, h, _, _, _ => h.elim
  | _ :: _, [], h, _, _, _ => h.elim
theorem wkE_refl : ∀ l : List SD, wkE l l
  | [] => trivial
  | a :: l => ⟨.inl rfl, wkE_refl l⟩
theorem low_get {n : Nat} : ∀ {l : List SD}, low n l → ∀ {i j : Nat}, l[i]? = some (SD.r j) → j < n
  | [], _, i, j, e => by simp at e
  | .r k :: l, h, 0, j, e => by simp at e; subst e; exact h.1
  | .un :: l, h, 0, j, e => by simp at e
  | .d x :: l, h, 0, j, e => by simp at e
  | .r k :: l, h, i + 1, j, e => low_get (l := l) h.2 (by simpa using e)
  | .un :: l, h, i + 1, j, e => low_get (l := l) h (by simpa using e)
  | .d x :: l, h, i + 1, j, e => low_get (l := l) h (by simpa using e)
section
variable {K : PySem.W.Frag} {s : S} {σ : L2.St} {ρ : List V} {T : List En} {H : Hp}
theorem Held.forget {F : Hp} {x : En} {fp : List Addr} {L : List EF} {v : Option V} (h : Held K F H ((x, fp) :: L)) : Held K F H (((IT.un, v), []) :: L) := h.tail.unCons
theorem ok_es : ∀ {e e' : List SD} {σ : L2.St} {l : List En}, wkE e e' → OK K (ES e σ ++ l) H → OK K (ES e' σ ++ l) H
  | [], [], _, _, _, h => h
  | a :: e, b :: e', [], l, _, h => h
  | a :: e, b :: e', v :: σ, l, w, h => by
    have h1 : OK K (ES e σ ++ ((itOf a, v) :: l)) H := h.perm List.perm_middle.symm
    have h2 : OK K (ES e' σ ++ ((itOf a, v) :: l)) H := ok_es w.2 h1
    have h3 : OK K ((itOf b, v) :: (ES e' σ ++ l)) H := by
      have h4 : OK K ((itOf a, v) :: (ES e' σ ++ l)) H := h2.perm List.perm_middle
      rcases w.1 with z | z
      · rw [z]; exact h4
      · rw [z]; exact h4.tail.un
    exact h3
  | [], _ :: _, _, _, w, _ => w.elim
  | _ :: _, [], _, _, w, _ => w.elim
theorem Sat.trim {e' : List SD} {n : Nat} (g : Sat K s σ ρ T H) (w : wkE s.e e') (lw : low n e') : Sat K ⟨e', s.R.take n⟩ σ (ρ.take n) T H := by
  refine ⟨(wkE_len w).trans g.le, by simp [g.lr], fun i j e => ?_, ?_⟩
  · obtain ⟨a, h1, h2⟩ := wkE_get w e
    rcases h2 with z | z
    · subst z
      obtain ⟨v, e1, e2⟩ := g.al i j h1
      exact ⟨v, e1, by rw [List.getElem?_take_of_lt (low_get lw e)]; exact e2⟩
    · cases z
  · have h1 : OK K (ES e' σ ++ (RS s.R ρ ++ T)) H := by
      refine ok_es w (g.ok.perm ?_)
      exact (List.perm_append_comm).trans (by rw [List.append_assoc])
    have q : RS s.R ρ = RS (s.R.take n) (ρ.take n) ++ RS (s.R.drop n) (ρ.drop n) := by
      unfold RS
      rw [← List.zipWith_append (by simp [g.lr]), List.take_append_drop, List.take_append_drop]
    rw [q] at h1
    have h2 : OK K (RS (s.R.drop n) (ρ.drop n) ++ (T ++ (ES e' σ ++ RS (s.R.take n) (ρ.take n)))) H := by
      refine h1.perm ?_
      have p1 : (ES e' σ ++ (RS (s.R.take n) (ρ.take n) ++ RS (s.R.drop n) (ρ.drop n) ++ T)).Perm ((ES e' σ ++ RS (s.R.take n) (ρ.take n)) ++ (RS (s.R.drop n) (ρ.drop n) ++ T)) := by
        rw [List.append_assoc, List.append_assoc]
      refine p1.trans ?_
      refine (List.perm_append_comm).trans ?_
      rw [List.append_assoc]
    exact OK.right h2
end
theorem ZE.trim {X : Cx} {e : Expr} {s s1 : S} {x : PyData} {e' : List SD} {n : Nat} (h : ZE X e s (.d x) s1) (w : wkE s1.e e') (lw : low n e') (hn : s.R.length ≤ n) : ZE X e s (.d x) ⟨e', s1.R.take n⟩ :=
  PE.imp h fun σ H Q ⟨T, ρ, g, k⟩ => ⟨T, ρ, g, fun v ρ' H' p vr g' => k v (ρ'.take n) H' (by
    obtain ⟨m, rfl⟩ := p
    rw [List.take_append, List.take_of_length_le (by rw [← g.lr]; exact hn)]
    exact List.prefix_append _ _) trivial (g'.trim w lw)⟩
/-- the state as it was, less what came -/
theorem low_of {K : PySem.W.Frag} {s : S} {σ : L2.St} {ρ : List V} {T : List En} {H : Hp} (g : Sat K s σ ρ T H) : low s.R.length s.e := by
  have h : ∀ l : List SD, (∀ (i j : Nat), l[i]? = some (SD.r j) → j < s.R.length) → low s.R.length l := by
    intro l
    induction l with
    | nil => intro _; trivial
    | cons a l ih =>
      intro h
      have t := ih fun i j e => h (i + 1) j (by simpa using e)
      cases a with
      | r k => exact ⟨h 0 k rfl, t⟩
      | un => exact t
      | d x => exact t
  refine h s.e fun i j e => ?_
  obtain ⟨v, _, e2⟩ := g.al i j e
  rw [g.lr]
  exact (List.getElem?_eq_some_iff.mp e2).1
theorem ZE.clean {X : Cx} {e : Expr} {s : S} {x : PyData} {R' : List Own} (h : ZE X e s (.d x) ⟨s.e, s.R ++ R'⟩) : ZE X e s (.d x) s :=
  PE.imp h fun σ H Q ⟨T, ρ, g, k⟩ => ⟨T, ρ, g, fun v ρ' H' p vr g' => k v (ρ'.take s.R.length) H' (by
    obtain ⟨m, rfl⟩ := p
    rw [List.take_append, List.take_of_length_le (by rw [← g.lr]; exact Nat.le_refl _)]
    exact List.prefix_append _ _) trivial (by
      have t := g'.trim (e' := s.e) (n := s.R.length) (wkE_refl _) (low_of g)
      have q : (s.R ++ R').take s.R.length = s.R := by simp
      rw [show (⟨s.e, (⟨s.e, s.R ++ R'⟩ : S).R.take s.R.length⟩ : S) = s by rw [show (⟨s.e, s.R ++ R'⟩ : S).R = s.R ++ R' from rfl, q]] at t
      exact t)⟩
def gone : Own where
  holds := fun _ _ _ _ fp => fp = []
  stay := fun h _ _ => h
/-- a list that has just come, kept for good -/
theorem ZE.frz {X : Cx} {e : Expr} {s s1 : S} {j : Nat} {ds : List PyData} (h : ZE X e s (.r j) s1) (hj : s1.R[j]? = some (OL ds)) : ZE X e s (.d (.list ds)) ⟨s1.e, s1.R.set j gone⟩ :=
  PE.imp h fun σ H Q ⟨T, ρ, g, k⟩ => ⟨T, ρ, g, fun v ρ' H' p vr g' => k v ρ' H' p trivial (by
    obtain ⟨w, e2, ok, back⟩ := g'.obj hj
    have ev : w = v := Option.some.inj (e2.symm.trans vr)
    subst ev
    obtain ⟨F, f⟩ := ok.fz
    have f2 : OK X.K ((IT.d (.list ds), some w) :: (T ++ (ES s1.e σ ++ (RS s1.R ρ').set j (IT.un, some w)))) H' := (OK.perm (List.Perm.swap _ _ _) f.freeze).tail
    have f3 : OK X.K ((IT.o gone, some w) :: (((IT.d (.list ds), some w) :: T) ++ (ES s1.e σ ++ (RS s1.R ρ').set j (IT.un, some w)))) H' := by
      obtain ⟨F2, L, e1, gg⟩ := f2
      have c := gg.oCons (v := w) (P := gone) (fp := []) rfl List.nodup_nil (fun a ha => by cases ha) (fun a ha => by cases ha)
      exact ⟨F2, (((IT.o gone, some w), []) :: L), by rw [List.map_cons, e1]; rfl, c⟩
    exact back2 g' hj e2 f3)⟩
where
  back2 {K : PySem.W.Frag} {s : S} {σ : L2.St} {ρ : List V} {T T2 : List En} {H H' : Hp} {j : Nat} {P Q : Own} {w : V} (g : Sat K s σ ρ T H) (hj : s.R[j]? = some P) (e2 : ρ[j]? = some w)
      (ok : OK K ((IT.o Q, some w) :: (T2 ++ (ES s.e σ ++ (RS s.R ρ).set j (IT.un, some w)))) H') : Sat K ⟨s.e, s.R.set j Q⟩ σ ρ T2 H' := by
    have hz : j < (RS s.R ρ).length := (List.getElem?_eq_some_iff.mp (rs_get hj e2)).1
    refine ⟨g.le, by simpa using g.lr, g.al, ?_⟩
    have k := ok.set (T2.length + ((ES s.e σ).length + j))
    rw [List.set_append_right _ _ (Nat.le_add_right _ _), Nat.add_sub_cancel_left, List.set_append_right _ _ (Nat.le_add_right _ _), Nat.add_sub_cancel_left, List.set_set, ← rs_set g.lr e2] at k
    exact k

/-! ### statements -/
section
variable {X : Cx} {e a b c : Expr} {es : List Expr} {st : Stmt} {rest body orelse : List Stmt} {s s' s1 s2 s3 : S} {r r1 r2 : SD} {rs : List SD} {pos : Pos} {R : Bool → S → Prop} {k : Bool} {P : Po} {M : S → Prop}
theorem Meets.mono {K : PySem.W.Frag} {ρ ρ' : List V} {T : List En} {D : Ends} (h : Meets K P ρ T D) (p : ρ <+: ρ') : Meets K P ρ' T D :=
  ⟨fun s' σ' r' H' a q g => h.nx s' σ' r' H' a (p.trans q) g, fun x s' σ' r' H' v a q vr g => h.rt x s' σ' r' H' v a (p.trans q) vr g, fun s' σ' r' H' a q g => h.bk s' σ' r' H' a (p.trans q) g, fun s' σ' r' H' a q g => h.ct s' σ' r' H' a (p.trans q) g⟩
theorem take_pre {ρ ρ' : List V} {n : Nat} (p : ρ <+: ρ') (h : n ≤ ρ.length) : ρ'.take n = ρ.take n := by
  obtain ⟨m, rfl⟩ := p
  exact List.take_append_of_le_length h
theorem take_pre' {ρ ρ' : List V} {n : Nat} (p : ρ.take n <+: ρ') (h : n ≤ ρ.length) : ρ'.take n = ρ.take n ∧ n ≤ ρ'.length := by
  obtain ⟨m, rfl⟩ := p
  have l : (ρ.take n).length = n := by rw [List.length_take]; omega
  refine ⟨?_, by rw [List.length_append, l]; omega⟩
  rw [List.take_append_of_le_length (by omega), List.take_of_length_le (by omega)]
/-- a block in two: what is between -/
theorem zss_seq (h1 : PS X st (tS X.K (fun t => t = s) { P with nx := M })) (h2 : ∀ t, M t → ZSs X rest t P) : ZSs X (st :: rest) s P := by
  refine PSs.imp (pss_cons h1 (zss_all h2)) fun D σ H ⟨t, T, ρ, e1, hb, g, q⟩ => ?_
  refine ⟨t, T, ρ, e1, hb, g, ⟨fun s' σ' ρ' H' m p g' => ?_, q.rt, q.bk, q.ct⟩⟩
  obtain ⟨z1, z2⟩ := take_pre' p hb
  exact ⟨s', T, ρ', m, z2, g', by rw [z1]; exact q⟩
theorem zss_nil (h : P.nx s) : ZSs X [] s P := PSs.imp pss_nil fun D σ H ⟨t, T, ρ, e1, hb, g, q⟩ => by
  subst e1
  exact q.nx t σ ρ H h (List.take_prefix _ _) g
/-- .. forgetting -/
theorem zss_end {e' : List SD} (n : Nat) (w : wkE s.e e') (lw : low n e') (hn : P.b ≤ n) (h : P.nx ⟨e', s.R.take n⟩) : ZSs X [] s P := PSs.imp pss_nil fun D σ H ⟨t, T, ρ, e1, hb, g, q⟩ => by
  subst e1
  refine q.nx _ σ (ρ.take n) H h ?_ (g.trim w lw)
  rw [show ρ.take P.b = (ρ.take n).take P.b by rw [List.take_take, Nat.min_eq_left hn]]
  exact List.take_prefix _ _
/-- forgetting on the way -/
theorem zss_forget {e' : List SD} (n : Nat) (w : wkE s.e e') (lw : low n e') (hn : P.b ≤ n) (h : ZSs X rest ⟨e', s.R.take n⟩ P) : ZSs X rest s P := PSs.imp h fun D σ H ⟨t, T, ρ, e1, hb, g, q⟩ => by
  subst e1
  refine ⟨_, T, ρ.take n, rfl, by rw [List.length_take]; omega, g.trim w lw, ?_⟩
  rw [List.take_take, Nat.min_eq_left hn]
  exact q
/-- a statement that is a test of an expression's value dropped, .. -/
theorem zss_expr (h : ZE X e s r s1) (k : ZSs X rest s1 P) (hs : swapsWith e none pos.line X.env = pure false := by rfl) : ZSs X (.Expr e pos :: rest) s P :=
  zss_seq (M := fun t => t = s1) (PS.imp (ps_expr h hs) fun D σ H ⟨t, T, ρ, e1, hb, g, q⟩ => by
    subst e1
    exact ⟨T, ρ, g, fun v ρ' H' p vr g' => q.nx s1 σ ρ' H' rfl ((List.take_prefix _ _).trans p) g'.tdrop⟩) fun t e => by subst e; exact k
theorem zss_set {x : Str} {p' : Pos} (i : Nat) (h : ZE X e s r s1) (hi : i < s1.e.length) (k : ZSs X rest ⟨s1.e.set i r, s1.R⟩ P) (hN : X.N.Nodup) (hx : X.N[i]? = some x := by rfl) (hl : Loc X.env.scope x := by first | exact .inl rfl | exact .inr rfl) (hs : swapsWith e (some (.Name x p')) pos.line X.env = pure false := by rfl)
    (hf : X.fn x = true ∨ X.env.scope.names.lookup x = some .local := by first | exact .inl rfl | exact .inr rfl) : ZSs X (.Assign [.Name x p'] e pos :: rest) s P :=
  zss_seq (M := fun t => t = ⟨s1.e.set i r, s1.R⟩) (PS.imp (ps_set hN hx hl h hs hf) fun D σ H ⟨t, T, ρ, e1, hb, g, q⟩ => by
    subst e1
    exact ⟨T, ρ, g, fun v ρ' H' p vr g' => q.nx _ (σ.set i (some v)) ρ' H' rfl ((List.take_prefix _ _).trans p) (g'.put hi vr)⟩) fun t e => by subst e; exact k
theorem zss_never {sts : List Stmt} : PSs X sts (tS X.K (fun _ => False) P) := ⟨fun _ _ _ _ _ _ ⟨_, _, _, h, _⟩ => h.elim⟩
theorem zss_ret (h : ZE X e s r s1) (k : P.rt r s1) : ZSs X (.Return (some e) pos :: rest) s P :=
  zss_seq (M := fun _ => False) (PS.imp (ps_ret h) fun D σ H ⟨t, T, ρ, e1, hb, g, q⟩ => by
    subst e1
    exact ⟨T, ρ, g, fun v ρ' H' p vr g' => q.rt r s1 σ ρ' H' v k ((List.take_prefix _ _).trans p) vr g'⟩) fun t e => e.elim
theorem zss_pass (k : ZSs X rest s P) : ZSs X (.Pass pos :: rest) s P :=
  zss_seq (M := fun t => t = s) (PS.imp ps_pass fun D σ H ⟨t, T, ρ, e1, hb, g, q⟩ => by
    subst e1
    exact q.nx _ σ ρ H rfl (List.take_prefix _ _) g) fun t e => by subst e; exact k
theorem zss_continue (k : P.ct s) : ZSs X (.Continue pos :: rest) s P :=
  zss_seq (M := fun _ => False) (PS.imp ps_continue fun D σ H ⟨t, T, ρ, e1, hb, g, q⟩ => by
    subst e1
    exact q.ct _ σ ρ H k (List.take_prefix _ _) g) fun t e => e.elim
theorem zss_break (k : P.bk s) : ZSs X (.Break pos :: rest) s P :=
  zss_seq (M := fun _ => False) (PS.imp ps_break fun D σ H ⟨t, T, ρ, e1, hb, g, q⟩ => by
    subst e1
    exact q.bk _ σ ρ H k (List.take_prefix _ _) g) fun t e => e.elim
/-- if: M is what stands behind it -/
theorem zss_if (hc : ZT X c s R) (h1 : ∀ t, R true t → ZSs X body t { P with nx := M }) (h2 : ∀ t, R false t → ZSs X orelse t { P with nx := M }) (k : ∀ t, M t → ZSs X rest t P) : ZSs X (.If c body orelse pos :: rest) s P :=
  zss_seq (M := M) (PS.imp (ps_if hc (zss_all h1) (zss_all h2)) fun D σ H ⟨t, T, ρ, e1, hb, g, q⟩ => by
    subst e1
    refine ⟨T, ρ, g, fun b t' ρ' H' hr p g' => ?_⟩
    have z := take_pre p hb
    have z2 : P.b ≤ ρ'.length := Nat.le_trans hb p.length_le
    cases b with
    | true => exact ⟨t', T, ρ', hr, z2, g', by show Meets _ _ (ρ'.take P.b) _ _; rw [z]; exact q⟩
    | false => exact ⟨t', T, ρ', hr, z2, g', by show Meets _ _ (ρ'.take P.b) _ _; rw [z]; exact q⟩) k
/-- .. where the body leaves -/
theorem zss_ifRet (hc : ZT X c s (Is k s1)) (h1 : k = true → ZSs X body s1 { P with nx := fun _ => False }) (h2 : k = false → ZSs X rest s1 P) : ZSs X (.If c body [] pos :: rest) s P := by
  refine zss_if (M := fun t => k = false ∧ t = s1) hc (fun t ⟨e1, e2⟩ => ?_) (fun t ⟨e1, e2⟩ => ?_) fun t ⟨e1, e2⟩ => ?_
  · subst e2
    refine PSs.imp (h1 e1.symm) fun D σ H ⟨t', T, ρ, e1, hb, g, q⟩ => ⟨t', T, ρ, e1, hb, g, ⟨fun s' σ' ρ' H' z => z.elim, q.rt, q.bk, q.ct⟩⟩
  · subst e2
    exact zss_nil ⟨e1.symm, rfl⟩
  · subst e2
    exact h2 e1
/-- .. both ways known -/
theorem zss_ifI (hc : ZT X c s (Is k s1)) (h1 : k = true → ZSs X body s1 { P with nx := M }) (h2 : k = false → ZSs X orelse s1 { P with nx := M }) (h3 : ∀ t, M t → ZSs X rest t P) : ZSs X (.If c body orelse pos :: rest) s P :=
  zss_if (M := M) hc (fun t ⟨e1, e2⟩ => by subst e2; exact h1 e1.symm) (fun t ⟨e1, e2⟩ => by subst e2; exact h2 e1.symm) h3
/-- a list of its own grows: xs.append(e) -/
theorem Sat.putL {K : PySem.W.Frag} {σ : L2.St} {ρ : List V} {T : List En} {H : Hp} {j : Nat} {ds : List PyData} (g : Sat K s σ ρ T H) (hj : s.R[j]? = some (OL ds)) :
    ∃ p vs F, ρ[j]? = some (.ref p) ∧ H p = some (.lst vs) ∧ DpAll K F vs ds ∧ (∀ {x v}, (IT.d x, some v) ∈ T → Dp K F v x) ∧ ∀ ds' vs', DpAll K F vs' ds' → Sat K ⟨s.e, s.R.set j (OL ds')⟩ σ ρ T (upd H p (.lst vs')) := by
  obtain ⟨v, e2, ok, back⟩ := g.obj hj
  obtain ⟨F, f⟩ := ok.fz
  obtain ⟨p, vs, e3, h1, h2, h3⟩ := f.putL (ds' := ds)
  subst e3
  refine ⟨p, vs, F, e2, h1, h2, fun {x v} m => ?_, fun ds' vs' q => back _ _ (h3 ds' vs' q)⟩
  obtain ⟨u, z, d⟩ := f.at (x := x) (v := some v) (List.mem_cons_of_mem _ (List.mem_append_left _ m))
  cases z
  exact d
theorem vrs_one {K : PySem.W.Frag} {σ : L2.St} {ρ : List V} {T : List En} {H : Hp} {vs : List V} {x : PyData} (vr : VRs [.d x] ρ vs) (g : Sat K s σ ρ (its [.d x] vs ++ T) H) : ∃ v, vs = [v] ∧ Sat K s σ ρ ((IT.d x, some v) :: T) H := by
  obtain ⟨v, e, _⟩ := vrs1 vr
  subst e
  exact ⟨v, rfl, g⟩
theorem pe_app {s : S} {j : Nat} {ds ds1 : List PyData} {x : PyData} {apos p2 : Pos} (ha : ZE X a s (.r j) s1) (he : ZA X [e] s1 [.d x] s2) (h1 : s1.R[j]? = some (OL ds1)) (hj : s2.R[j]? = some (OL ds)) (hz : ds.length < sizeLine)
    (hp : ∀ {t1 : TE} {t2 : TA}, PE X a t1 → PA X [e] t2 → PE X (.Call (.Attribute a "append" apos) [e] [] p2) (tBM X.K "list" rAppend t1 t2)) :
    ZE X (.Call (.Attribute a "append" apos) [e] [] p2) s (.d .none) ⟨s2.e, s2.R.set j (OL (ds ++ [x]))⟩ := by
  refine PE.imp (hp ha he) fun σ H Q ⟨T, ρ, g, k⟩ => ⟨T, ρ, g, fun v ρ1 H1 p1 vr1 g1 => ?_⟩
  have y1 := g1.see List.mem_cons_self vr1 (.r h1)
  cases y1 with
  | lst hs _ =>
    refine ⟨.inl ⟨rfl, _, hs⟩, _, ρ1, g1, fun vs ρ2 H2 p2 vr2 g2 => ?_⟩
    obtain ⟨v, e1, g3⟩ := vrs_one vr2 g2
    subst e1
    obtain ⟨p, ws, F, e2, e3, e4, e5, e6⟩ := g3.putL hj
    have ev : V.ref p = V.ref _ := Option.some.inj (e2.symm.trans (vr1.mono p2))
    cases ev
    have hx : Dp X.K F v x := e5 List.mem_cons_self
    refine ⟨_, ws, v, rfl, rfl, e3, by rw [dpsLen e4]; exact hz, k .non ρ2 _ (p1.trans p2) trivial ?_⟩
    exact ((e6 _ _ (dpsApp e4 (.cons hx .nil))).tdrop.tdrop).tflat (show flat .non .none from trivial)
theorem zss_app {j : Nat} {ds ds1 : List PyData} {x : PyData} {apos p2 : Pos} (ha : ZE X a s (.r j) s1) (he : ZE X e s1 (.d x) s2) (h1 : s1.R[j]? = some (OL ds1)) (hj : s2.R[j]? = some (OL ds)) (hz : ds.length < sizeLine) (k : ZSs X rest ⟨s2.e, s2.R.set j (OL (ds ++ [x]))⟩ P)
    (hne : starEach [e] X.env = (false, eval e X.env) :: starEach [] X.env := by rfl)
    (hbase : attributeBase a "append" X.env (eval a X.env) = eval a X.env := by rfl)
    (hfew : ((backTo p2 (starEach (e :: []) X.env)).all (fun x => !x.1) && (backToKw p2 (keywordEach [] X.env)).all (fun x => x.1.isSome)
      && decide ((e :: ([] : List Expr)).length + ([] : List Keyword).length + (if ([] : List Keyword).isEmpty then 0 else 1) < 30)) = true := by rfl)
    (hline : (apos.endLine == p2.line) = true := by rfl) (hplain : (backTo p2 (starEach [] X.env)).any (·.1) = false := by rfl)
    (hs : swapsWith (.Call (.Attribute a "append" apos) [e] [] p2) none pos.line X.env = pure false := by rfl) :
    ZSs X (.Expr (.Call (.Attribute a "append" apos) [e] [] p2) pos :: rest) s P :=
  zss_expr (pe_app ha (za_cons he za_nil hne) h1 hj hz fun h1 h2 => pe_bm PySem.F.plainAttrs_list PySem.F.slot_list_append PySem.F.type_list_append mt_append h1 h2 hbase hfew hline hne hplain) k hs
end
end Z

namespace Z
open PySem L2

/-! ### what is walked -/
def Wk (K : PySem.W.Frag) (J : It) (ds : List PyData) (T0 : List En) : Prop := ∀ l H, OK K (T0 ++ l) H →
  (∀ i x, ds[i]? = some x → J.go i H ∧ ∀ v H', J.yld i H v H' → OK K ((IT.d x, some v) :: (T0 ++ l)) H') ∧ J.stop ds.length H
def tI (K : PySem.W.Frag) (s : S) (ds : List PyData) (s1 : S) : TI := fun σ H R => ∃ T ρ, Sat K s σ ρ T H ∧ ∀ J T0 ρ' H', ρ <+: ρ' → Sat K s1 σ ρ' (T0 ++ T) H' → Wk K J ds T0 → R J H'
def ZI (X : Cx) (tg it : Expr) (s : S) (ds : List PyData) (s1 : S) : Prop := PI X tg it (tI X.K s ds s1)
section
variable {X : Cx} {tg e a b : Expr} {es : List Expr} {s s' s1 s2 : S} {ds : List PyData} {pos p : Pos} {i j : Int}
theorem PI.imp {t t' : TI} (h : PI X tg e t) (k : ∀ σ H Q, t' σ H Q → t σ H Q) : PI X tg e t' := ⟨fun pins s σ H Q I q => h.run pins s σ H Q I (k σ H Q q)⟩
theorem wk_list {K : PySem.W.Frag} {c : Addr} : Wk K (Itl K c) ds [(IT.d (.list ds), some (.ref c))] := fun l H ok => by
  obtain ⟨F, f⟩ := ok.fz
  obtain ⟨u, e1, d⟩ := f.at (x := .list ds) (v := some (.ref c)) List.mem_cons_self
  cases e1
  cases d with
  | lst hs ha =>
    have hs' := f.ext.l hs
    refine ⟨fun i x hx => ?_, _, hs', Nat.le_of_eq (dpsLen ha)⟩
    obtain ⟨v, h1, h2⟩ := dpsGet ha hx
    refine ⟨⟨_, v, hs', h1⟩, fun v' H' ⟨e1, hv⟩ => ?_⟩
    subst e1
    have e2 : v = v' := Option.some.inj (h1.symm.trans (hv _ hs'))
    subst e2
    exact (f.add h2).ok
theorem wk_tup {K : PySem.W.Frag} {c : Addr} : Wk K (Itt K c) ds [(IT.d (.tuple ds), some (.ref c))] := fun l H ok => by
  obtain ⟨F, f⟩ := ok.fz
  obtain ⟨u, e1, d⟩ := f.at (x := .tuple ds) (v := some (.ref c)) List.mem_cons_self
  cases e1
  cases d with
  | tup hs ha =>
    have hs' := f.ext.t hs
    refine ⟨fun i x hx => ?_, _, hs', Nat.le_of_eq (dpsLen ha)⟩
    obtain ⟨v, h1, h2⟩ := dpsGet ha hx
    refine ⟨⟨_, v, hs', h1⟩, fun v' H' ⟨e1, hv⟩ => ?_⟩
    subst e1
    have e2 : v = v' := Option.some.inj (h1.symm.trans (hv _ hs'))
    subst e2
    exact (f.add h2).ok
def rng (lo : Int) (n : Nat) : List PyData := (List.range n).map fun k => .int (lo + (k : Nat))
theorem rng_get {lo : Int} {n k : Nat} {x : PyData} (h : (rng lo n)[k]? = some x) : k < n ∧ x = .int (lo + (k : Nat)) := by
  unfold rng at h
  rw [List.getElem?_map] at h
  cases q : (List.range n)[k]? with
  | none => rw [q] at h; cases h
  | some m =>
    rw [q] at h
    have hk : k < n := by
      have := (List.getElem?_eq_some_iff.mp q).1
      simpa using this
    rw [List.getElem?_range hk] at q
    cases q
    exact ⟨hk, (Option.some.inj h).symm⟩
theorem rng_len {lo : Int} {n : Nat} : (rng lo n).length = n := by unfold rng; simp
theorem wk_rng {K : PySem.W.Frag} {lo : Int} {n : Nat} : Wk K (Itr lo n) (rng lo n) [] := fun l H ok => by
  refine ⟨fun k x hx => ?_, Nat.le_of_eq rng_len.symm⟩
  obtain ⟨h1, h2⟩ := rng_get hx
  subst h2
  refine ⟨h1, fun v H' ⟨e1, e2⟩ => ?_⟩
  subst e1 e2
  exact OK.flat (show flat (.int _) (.int _) from rfl) ok
theorem zi_list (h : ZE X e s (.d (.list ds)) s1) : ZI X tg e s ds s1 := PI.imp (pi_list h) fun σ H R ⟨T, ρ, g, k⟩ => ⟨T, ρ, g, fun v ρ' H' p vr g' => by
  obtain ⟨F, a, vs, e1, hs, ha, f⟩ := g'.seeL (r := .d (.list ds)) List.mem_cons_self trivial (.d _)
  subst e1
  exact ⟨a, rfl, ⟨vs, hs⟩, k _ [(IT.d (.list ds), some (.ref a))] ρ' H' p g' wk_list⟩⟩
theorem zi_tup (h : ZE X e s (.d (.tuple ds)) s1) : ZI X tg e s ds s1 := PI.imp (pi_tup h) fun σ H R ⟨T, ρ, g, k⟩ => ⟨T, ρ, g, fun v ρ' H' p vr g' => by
  obtain ⟨F, a, vs, e1, hs, ha, f⟩ := g'.seeT (r := .d (.tuple ds)) List.mem_cons_self (.d _)
  subst e1
  exact ⟨a, rfl, ⟨vs, hs⟩, k _ [(IT.d (.tuple ds), some (.ref a))] ρ' H' p g' wk_tup⟩⟩
theorem zi_rng1 (h : ZA X [a] s [.d (.int j)] s1) (hj : -(2 ^ 62) ≤ j ∧ j < 2 ^ 62) (hm : X.mg "range" = none) (hg : Gl X "range" := by rfl) (hs : starEach [a] X.env = [(false, eval a X.env)] := by rfl) : ZI X tg (.Call (.Name "range" p) [a] [] pos) s (rng 0 j.toNat) s1 :=
  PI.imp (pi_range1 hg hm h hs) fun σ H R ⟨T, ρ, g, k⟩ => ⟨T, ρ, g, fun vs ρ' H' p vr g' => by
    obtain ⟨v, e1, _⟩ := vrs1 vr
    subst e1
    have e2 := see_int (i := j) (v := v) g' List.mem_cons_self
    subst e2
    exact ⟨j, rfl, hj.1, hj.2, k _ [] ρ' H' p (Sat.tdrop (x := (IT.d (.int j), some (V.int j))) g') wk_rng⟩⟩
theorem zi_rng2 (h : ZA X [a, b] s [.d (.int i), .d (.int j)] s1) (hj : -(2 ^ 62) ≤ i ∧ i < 2 ^ 62 ∧ -(2 ^ 62) ≤ j ∧ j < 2 ^ 62) (hm : X.mg "range" = none) (hg : Gl X "range" := by rfl) (hs : starEach [a, b] X.env = [(false, eval a X.env), (false, eval b X.env)] := by rfl)
    (hs2 : starEach [b] X.env = [(false, eval b X.env)] := by rfl) : ZI X tg (.Call (.Name "range" p) [a, b] [] pos) s (rng i (j - i).toNat) s1 :=
  PI.imp (pi_range2 hg hm h hs hs2) fun σ H R ⟨T, ρ, g, k⟩ => ⟨T, ρ, g, fun vs ρ' H' p vr g' => by
    obtain ⟨v, w, e1, _⟩ := vrs2 vr
    subst e1
    have e2 := see_int (i := i) (v := v) g' List.mem_cons_self
    have e3 := see_int (i := j) (v := w) g' (List.mem_cons_of_mem _ List.mem_cons_self)
    subst e2 e3
    exact ⟨i, j, rfl, hj, k _ [] ρ' H' p (Sat.tdrop (x := (IT.d (.int j), some (V.int j))) (Sat.tdrop (x := (IT.d (.int i), some (V.int i))) g')) wk_rng⟩⟩

/-! ### targets -/
/-- but for the slots at vs -/
def offv (vs : List Nat) (σ σ' : L2.St) : Prop := σ'.length = σ.length ∧ ∀ k, k ∉ vs → σ'[k]? = σ[k]?
def tG (K : PySem.W.Frag) (vs : List Nat) (x : PyData) (s s' : S) : TG := fun v σ H Q => ∃ T ρ, Sat K s σ ρ ((IT.d x, some v) :: T) H ∧ ∀ σ', offv vs σ σ' → Sat K s' σ' ρ T H → Q σ' H
def ZG (X : Cx) (tg : Expr) (vs : List Nat) (x : PyData) (s s' : S) : Prop := PG X tg (tG X.K vs x s s')
def tGs (K : PySem.W.Frag) (vs : List Nat) (xs : List PyData) (s s' : S) : TGs := fun us σ H Q => ∃ T ρ, xs.length = us.length ∧ Sat K s σ ρ (ds2 xs us ++ T) H ∧ ∀ σ', offv vs σ σ' → Sat K s' σ' ρ T H → Q σ' H
def ZGs (X : Cx) (tgs : List Expr) (vs : List Nat) (xs : List PyData) (s s' : S) : Prop := PGs X tgs (tGs X.K vs xs s s')
theorem PG.imp {t t' : TG} (h : PG X tg t) (k : ∀ v σ H Q, t' v σ H Q → t v σ H Q) : PG X tg t' := ⟨fun pins s σ H v u Q I r q => h.run pins s σ H v u Q I r (k v σ H Q q)⟩
theorem PGs.imp {tgs : List Expr} {t t' : TGs} (h : PGs X tgs t) (k : ∀ v σ H Q, t' v σ H Q → t v σ H Q) : PGs X tgs t' := ⟨fun pins s σ H v u Q I r q => h.run pins s σ H v u Q I r (k v σ H Q q)⟩
theorem offv_set {vs : List Nat} {σ : L2.St} {k : Nat} {v : Option V} (h : k ∈ vs) : offv vs σ (σ.set k v) := ⟨by simp, fun m hm => by
  rw [List.getElem?_set_ne]
  rintro rfl
  exact hm h⟩
theorem offv.trans {vs : List Nat} {σ σ' σ2 : L2.St} (h : offv vs σ σ') (h2 : offv vs σ' σ2) : offv vs σ σ2 := ⟨h2.1.trans h.1, fun k hk => (h2.2 k hk).trans (h.2 k hk)⟩
theorem zg_name {y : Str} {vs : List Nat} {x : PyData} (k : Nat) (hk : k < s.e.length) (hN : X.N.Nodup) (hv : k ∈ vs := by simp) (hi : X.N[k]? = some y := by rfl) (hx : Loc X.env.scope y := by first | exact .inl rfl | exact .inr rfl)
    (hf : X.fn y = true ∨ X.env.scope.names.lookup y = some .local := by first | exact .inl rfl | exact .inr rfl) : ZG X (.Name y pos) vs x s ⟨s.e.set k (.d x), s.R⟩ :=
  PG.imp (pg_name hN hi hx hf) fun v σ H Q ⟨T, ρ, g, q⟩ => q _ (offv_set hv) (g.put (r := .d x) hk trivial)
theorem zgs_nil {vs : List Nat} : ZGs X [] vs [] s s := PGs.imp pgs_nil fun us σ H Q ⟨T, ρ, hl, g, q⟩ => by
  cases us with
  | nil => exact ⟨rfl, q σ ⟨rfl, fun _ _ => rfl⟩ g⟩
  | cons u us => simp at hl
theorem zgs_cons {vs : List Nat} {x : PyData} {xs : List PyData} {t : Expr} {ts : List Expr} (h1 : ZG X t vs x s s1) (h2 : ZGs X ts vs xs s1 s2) (hs : (assignEach (t :: ts) X.env).map (·.2) = assign t X.env :: (assignEach ts X.env).map (·.2) := by rfl) : ZGs X (t :: ts) vs (x :: xs) s s2 :=
  PGs.imp (pgs_cons h1 h2 hs) fun us σ H Q ⟨T, ρ, hl, g, q⟩ => by
    cases us with
    | nil => simp at hl
    | cons u us =>
      exact ⟨u, us, rfl, ds2 xs us ++ T, ρ, g, fun σ' o g' => ⟨T, ρ, by simpa using hl, g', fun σ2 o2 g2 => q σ2 (o.trans o2) g2⟩⟩
theorem Sat.openT {K : PySem.W.Frag} {σ : L2.St} {ρ : List V} {T : List En} {H : Hp} {v : V} (g : Sat K s σ ρ ((IT.d (.tuple ds), some v) :: T) H) : ∃ c vs, v = .ref c ∧ SqT K H c vs ∧ ds.length = vs.length ∧ Sat K s σ ρ (ds2 ds vs ++ T) H := by
  obtain ⟨F, c, vs, e1, hs, ha, f⟩ := g.seeT (r := .d (.tuple ds)) List.mem_cons_self (.d _)
  refine ⟨c, vs, e1, hs, (dpsLen ha).symm, g.le, g.lr, g.al, ?_⟩
  rw [List.append_assoc]
  have add : ∀ {ds : List PyData} {vs : List V} {l : List En}, DpAll K F vs ds → Fz K F l H → Fz K F (ds2 ds vs ++ l) H := by
    intro ds
    induction ds with
    | nil => intro vs l h f; cases h; exact f
    | cons d ds ih =>
      intro vs l h f
      cases h with
      | cons h1 h2 => exact (ih h2 f).add h1
  exact (add ha f.tail).ok
theorem zg_tup {vs : List Nat} {ts : List Expr} {k : Nat} (h : ZGs X ts vs ds s s') (hl : ts.length = ds.length := by rfl) (hc : X.calm = true := by rfl) (hn : (assignEach ts X.env).length = ds.length := by rfl) (hst : (assignEach ts X.env).findIdx? (·.1) = none := by rfl) : ZG X (.Tuple ts k pos) vs (.tuple ds) s s' :=
  PG.imp (pg_tup hc h hn hst) fun v σ H Q ⟨T, ρ, g, q⟩ => by
    obtain ⟨c, us, e1, hs, hl, g'⟩ := g.openT
    subst e1
    exact ⟨c, us, rfl, hs, hl.symm, T, ρ, hl, g', q⟩

/-! ### loops -/
variable {rest body : List Stmt} {P : Po} {M : S → Prop}
/-- families of goals, of blocks -/
theorem pss_fam {sts : List Stmt} (fam : S → Po → Prop) (h : ∀ t Q, fam t Q → ZSs X sts t Q) : PSs X sts (fun D σ H => ∃ t Q T ρ, fam t Q ∧ Q.b ≤ ρ.length ∧ Sat X.K t σ ρ T H ∧ Meets X.K Q (ρ.take Q.b) T D) :=
  ⟨fun pins sh σ H D I ⟨t, Q, T, ρ, m, hb, g, q⟩ => (h t Q m).run pins sh σ H D I ⟨t, T, ρ, rfl, hb, g, q⟩⟩
theorem pg_fam (vs : List Nat) (fam : PyData → S → S → Prop) (h : ∀ x t t', fam x t t' → ZG X tg vs x t t') : PG X tg (fun v σ H Q => ∃ x t t', fam x t t' ∧ tG X.K vs x t t' v σ H Q) :=
  ⟨fun pins sh σ H v u Q I r ⟨x, t, t', m, q⟩ => (h x t t' m).run pins sh σ H v u Q I r q⟩
theorem pt_fam (fam : S → (Bool → S → Prop) → Prop) (h : ∀ t R, fam t R → ZT X e t R) : PT X e (fun σ H Q => ∃ t R, fam t R ∧ tT X.K t R σ H Q) :=
  ⟨fun pins sh σ H Q I ⟨t, R, m, q⟩ => (h t R m).run pins sh σ H Q I q⟩
/-- what one turn of a for is -/
structure Turn1 (X : Cx) (tg : Expr) (body : List Stmt) (x : PyData) (t : S) (Q : Po) : Prop where
  go : ∃ vs t', ZG X tg vs x t t' ∧ ZSs X body t' Q
theorem zss_for {it : Expr} {vs : List Nat} (hi : ZI X tg it s ds s1) (nb : Nat) (hb : P.b ≤ nb) (hnb : nb ≤ s1.R.length) (Iv : Nat → S → Prop) (h0 : Iv 0 s1)
    (turn : ∀ i x t, ds[i]? = some x → Iv i t → ∃ t', ZG X tg vs x t t' ∧ ZSs X body t' { b := nb, nx := Iv (i + 1), rt := P.rt, bk := M, ct := Iv (i + 1) }) (hd : ∀ t, Iv ds.length t → M t) (k : ∀ t, M t → ZSs X rest t P)
    (hp : PassesOwn (model X.prog X.w) X.A X.env X.xe) (hc : X.calm = true := by rfl) (hs : ∀ x, foldedSetIterable it X.env x = pure x := by intro _; rfl) : ZSs X (.For tg it body [] pos :: rest) s P := by
  refine zss_seq (M := M) (PS.imp (ps_for hp hc hi (pg_fam vs (fun x t t' => ∃ i, ds[i]? = some x ∧ Iv i t ∧ ZG X tg vs x t t' ∧ ZSs X body t' { b := nb, nx := Iv (i + 1), rt := P.rt, bk := M, ct := Iv (i + 1) }) fun x t t' ⟨i, _, _, h, _⟩ => h)
    (pss_fam (fun t Q => ZSs X body t Q) fun t Q h => h) hs) fun D σ H ⟨t, T, ρ, e1, hb0, g, q⟩ => ?_) k
  subst e1
  refine ⟨T, ρ, g, fun J T0 ρ1 H1 p1 g1 w => ?_⟩
  have hr1 : nb ≤ ρ1.length := by rw [← g1.lr]; exact hnb
  have base : ∀ {ρ2 : List V}, ρ1.take nb <+: ρ2 → ρ.take P.b <+: ρ2 := fun p2 => by
    have z : ρ.take P.b = (ρ1.take nb).take P.b := by
      rw [List.take_take, Nat.min_eq_left hb]
      exact (take_pre p1 hb0).symm
    rw [z]
    exact (List.take_prefix _ _).trans p2
  refine ⟨fun i m σ' H' => m = ds.length - i ∧ i ≤ ds.length ∧ ∃ t ρ2, Iv i t ∧ ρ1.take nb <+: ρ2 ∧ Sat X.K t σ' ρ2 (T0 ++ T) H', ⟨_, rfl, Nat.zero_le _, s1, ρ1, h0, List.take_prefix _ _, g1⟩, ?_⟩
  rintro i m σ' H' ⟨rfl, hi', t, ρ2, iv, p2, g2⟩
  obtain ⟨w1, w2⟩ := w (T ++ (ES t.e σ' ++ RS t.R ρ2)) H' (by rw [← List.append_assoc]; exact g2.ok)
  by_cases hlt : i < ds.length
  · obtain ⟨go, yl⟩ := w1 i ds[i] (List.getElem?_eq_getElem hlt)
    refine .inr ⟨go, fun σ3 H3 => ∃ t ρ3, Iv (i + 1) t ∧ ρ1.take nb <+: ρ3 ∧ Sat X.K t σ3 ρ3 (T0 ++ T) H3, fun σ3 H3 ⟨t3, ρ3, a1, a2, a3⟩ => ⟨ds.length - (i + 1), by omega, rfl, hlt, t3, ρ3, a1, a2, a3⟩, fun v H4 y => ?_⟩
    have ok := yl v H4 y
    have g4 : Sat X.K t σ' ρ2 ((IT.d ds[i], some v) :: (T0 ++ T)) H4 := ⟨g2.le, g2.lr, g2.al, by
      rw [← List.append_assoc] at ok
      exact ok⟩
    obtain ⟨t', hg, hbody⟩ := turn i ds[i] t (List.getElem?_eq_getElem hlt) iv
    refine ⟨ds[i], t, t', ⟨i, List.getElem?_eq_getElem hlt, iv, hg, hbody⟩, T0 ++ T, ρ2, g4, fun σ5 o g5 => ?_⟩
    obtain ⟨z1, z2⟩ := take_pre' p2 hr1
    refine ⟨t', _, T0 ++ T, ρ2, hbody, z2, g5, ⟨fun s' σ'' ρ' H' a p g' => ?_, fun r s' σ'' ρ' H' v a p vr g' => ?_, fun s' σ'' ρ' H' a p g' => ?_, fun s' σ'' ρ' H' a p g' => ?_⟩⟩
    · exact ⟨s', ρ', a, by rw [← z1]; exact p, g'⟩
    · refine q.rt r s' σ'' ρ' H' v a (base (by rw [← z1]; exact p)) vr ?_
      have gp : Sat X.K s' σ'' ρ' (T0 ++ ((itOf r, some v) :: T)) H' := g'.tperm (List.perm_middle.symm)
      exact gp.tdrops
    · exact q.nx s' σ'' ρ' H' a (base (by rw [← z1]; exact p)) g'.tdrops
    · exact ⟨s', ρ', a, by rw [← z1]; exact p, g'⟩
  · have e : i = ds.length := by omega
    subst e
    exact .inl ⟨w2, q.nx t σ' ρ2 H' (hd t iv) (base p2) g2.tdrops⟩
theorem zss_while {c : Expr} (nb : Nat) (hb : P.b ≤ nb) (hnb : nb ≤ s.R.length) (Iv : Nat → S → Prop) (m0 : Nat) (h0 : Iv m0 s)
    (turn : ∀ m t, Iv m t → ∃ R, ZT X c t R ∧ (∀ t', R true t' → ZSs X body t' { b := nb, nx := fun u => ∃ m', m' < m ∧ Iv m' u, rt := P.rt, bk := M, ct := fun u => ∃ m', m' < m ∧ Iv m' u }) ∧ ∀ t', R false t' → M t') (k : ∀ t, M t → ZSs X rest t P)
    (hp : PassesOwn (model X.prog X.w) X.A X.env X.xe) : ZSs X (.While c body [] pos :: rest) s P := by
  refine zss_seq (M := M) (PS.imp (ps_while hp (pt_fam (fun t R => ZT X c t R) fun t R h => h) (pss_fam (fun t Q => ZSs X body t Q) fun t Q h => h)) fun D σ H ⟨t, T, ρ, e1, hb0, g, q⟩ => ?_) k
  subst e1
  have hr1 : nb ≤ ρ.length := by rw [← g.lr]; exact hnb
  have base : ∀ {ρ2 : List V}, ρ.take nb <+: ρ2 → ρ.take P.b <+: ρ2 := fun p2 => by
    have z : ρ.take P.b = (ρ.take nb).take P.b := by rw [List.take_take, Nat.min_eq_left hb]
    rw [z]
    exact (List.take_prefix _ _).trans p2
  refine ⟨fun m σ' H' => ∃ t ρ2, Iv m t ∧ ρ.take nb <+: ρ2 ∧ Sat X.K t σ' ρ2 T H', ⟨m0, _, ρ, h0, List.take_prefix _ _, g⟩, ?_⟩
  rintro m σ' H' ⟨t, ρ2, iv, p2, g2⟩
  obtain ⟨R, ht, h1, h2⟩ := turn m t iv
  obtain ⟨z1, z2⟩ := take_pre' p2 hr1
  refine ⟨t, R, ht, T, ρ2, g2, fun b t' ρ3 H3 hr p3 g3 => ?_⟩
  have p4 : ρ.take nb <+: ρ3 := p2.trans p3
  obtain ⟨z3, z4⟩ := take_pre' p4 hr1
  cases b with
  | true =>
    refine ⟨fun σ5 H5 => ∃ m', m' < m ∧ ∃ t ρ5, Iv m' t ∧ ρ.take nb <+: ρ5 ∧ Sat X.K t σ5 ρ5 T H5, fun σ5 H5 ⟨m', l, w⟩ => ⟨m', l, w⟩, t', _, T, ρ3, h1 t' hr, z4, g3, ⟨fun s' σ'' ρ' H' a p g' => ?_, fun r s' σ'' ρ' H' v a p vr g' => ?_, fun s' σ'' ρ' H' a p g' => ?_, fun s' σ'' ρ' H' a p g' => ?_⟩⟩
    · obtain ⟨m', l, a⟩ := a
      exact ⟨m', l, s', ρ', a, by rw [← z3]; exact p, g'⟩
    · exact q.rt r s' σ'' ρ' H' v a (base (by rw [← z3]; exact p)) vr g'
    · exact q.nx s' σ'' ρ' H' a (base (by rw [← z3]; exact p)) g'
    · obtain ⟨m', l, a⟩ := a
      exact ⟨m', l, s', ρ', a, by rw [← z3]; exact p, g'⟩
  | false => exact q.nx t' σ' ρ3 H3 (h2 t' hr) (base p4) g3
end
end Z

namespace Z
open PySem L2

/-! ### a comprehension's block -/
def wipeE (e : List SD) : List Nat → List SD
  | [] => e
  | v :: vs => (wipeE e vs).set v .un
theorem wipeE_len (e : List SD) : ∀ vs : List Nat, (wipeE e vs).length = e.length
  | [] => rfl
  | v :: vs => by unfold wipeE; rw [List.length_set, wipeE_len e vs]
theorem wipeE_get {e : List SD} {i : Nat} {a : SD} : ∀ {vs : List Nat}, (wipeE e vs)[i]? = some a → a = .un ∨ (e[i]? = some a ∧ i ∉ vs)
  | [], h => .inr ⟨h, by simp⟩
  | v :: vs, h => by
    unfold wipeE at h
    by_cases hi : i = v
    · subst hi
      by_cases hv : i < (wipeE e vs).length
      · rw [List.getElem?_set_self hv] at h
        exact .inl (Option.some.inj h).symm
      · rw [List.getElem?_eq_none (by simpa using hv)] at h
        cases h
    · rw [List.getElem?_set_ne (Ne.symm hi)] at h
      rcases wipeE_get h with z | ⟨z1, z2⟩
      · exact .inl z
      · exact .inr ⟨z1, by simp only [List.mem_cons, not_or]; exact ⟨hi, z2⟩⟩
theorem wipe_keep {σ : L2.St} {i : Nat} : ∀ {vs : List Nat}, i ∉ vs → (wipe σ vs)[i]? = σ[i]?
  | [], _ => rfl
  | v :: vs, h => by
    simp only [List.mem_cons, not_or] at h
    unfold wipe
    rw [List.getElem?_set_ne (Ne.symm h.1)]
    exact wipe_keep h.2
theorem wipe_at {σ : L2.St} {i : Nat} (hi : i < σ.length) : ∀ {vs : List Nat}, i ∈ vs → (wipe σ vs)[i]? = some none
  | [], h => by simp at h
  | v :: vs, h => by
    unfold wipe
    by_cases e : i = v
    · subst e
      rw [List.getElem?_set_self (by rw [wipe_length]; exact hi)]
    · rw [List.getElem?_set_ne (Ne.symm e)]
      exact wipe_at hi (by simpa [e] using h)
theorem wipe_off {σ σ' : L2.St} {vs : List Nat} (h : offv vs (wipe σ vs) σ') : wipe σ' vs = wipe σ vs := by
  have hl : σ'.length = σ.length := by rw [h.1, wipe_length]
  apply List.ext_getElem?
  intro i
  by_cases hv : i ∈ vs
  · by_cases hi : i < σ.length
    · rw [wipe_at (by omega) hv, wipe_at hi hv]
    · rw [List.getElem?_eq_none (by rw [wipe_length]; omega), List.getElem?_eq_none (by rw [wipe_length]; omega)]
  · rw [wipe_keep hv, h.2 i hv]
section
variable {K : PySem.W.Frag} {H F : Hp} {T l : List En} {σ : L2.St} {ρ : List V} {s : S}
theorem Fz.es : ∀ {e : List SD} {σ : L2.St} {l : List En}, e.length = σ.length → (∀ (i : Nat) (x : PyData) (v : Option V), e[i]? = some (SD.d x) → σ[i]? = some v → ∃ u, v = some u ∧ Dp K F u x) → Fz K F l H → Fz K F (ES e σ ++ l) H
  | [], _, _, _, _, f => f
  | a :: e, [], _, hl, _, _ => by simp at hl
  | a :: e, v :: σ, l, hl, h, f => by
    have ih := Fz.es (e := e) (σ := σ) (l := l) (by simpa using hl) (fun i x w h1 h2 => h (i + 1) x w (by simpa using h1) (by simpa using h2)) f
    show Fz K F ((itOf a, v) :: (ES e σ ++ l)) H
    cases a with
    | d x =>
      obtain ⟨u, e1, hd⟩ := h 0 x v rfl rfl
      subst e1
      exact ih.add hd
    | un => exact ih.un
    | r j => exact ih.un
theorem es_set {e : List SD} {σ : L2.St} (hl : e.length = σ.length) (i : Nat) (a : SD) (v : Option V) : ES (e.set i a) (σ.set i v) = (ES e σ).set i (itOf a, v) := by
  unfold ES
  apply List.ext_getElem?
  intro k
  rw [List.getElem?_zipWith]
  by_cases hk : k = i
  · subst hk
    by_cases hi : k < e.length
    · rw [List.getElem?_set_self hi, List.getElem?_set_self (by omega), List.getElem?_set_self (by rw [List.length_zipWith]; omega)]
    · rw [List.set_eq_of_length_le (by omega), List.set_eq_of_length_le (by omega), List.set_eq_of_length_le (by rw [List.length_zipWith]; omega), List.getElem?_zipWith]
  · rw [List.getElem?_set_ne (Ne.symm hk), List.getElem?_set_ne (Ne.symm hk), List.getElem?_set_ne (Ne.symm hk), List.getElem?_zipWith]
theorem OK.wipe {e : List SD} {σ : L2.St} (hl : e.length = σ.length) (h : OK K (T ++ (ES e σ ++ l)) H) : ∀ vs : List Nat, OK K (T ++ (ES (wipeE e vs) (L2.wipe σ vs) ++ l)) H
  | [] => h
  | v :: vs => by
    have ih := OK.wipe hl h vs
    unfold wipeE L2.wipe
    rw [es_set (by rw [wipeE_len, wipe_length]; exact hl)]
    by_cases hv : v < (ES (wipeE e vs) (L2.wipe σ vs)).length
    · have k := (ih.un (v := none)).set (T.length + v)
      rw [List.set_append_right _ _ (Nat.le_add_right _ _), Nat.add_sub_cancel_left, List.set_append_left _ _ hv] at k
      exact k
    · rw [List.set_eq_of_length_le (by omega)]
      exact ih
theorem cas {α : Type} (a b c : List α) : (a ++ (b ++ c)).Perm (b ++ (a ++ c)) := by
  rw [← List.append_assoc, ← List.append_assoc]
  exact List.Perm.append_right _ List.perm_append_comm
/-- into the block -/
theorem Sat.blk (g : Sat K s σ ρ T H) (vs : List Nat) : Sat K ⟨wipeE s.e vs, s.R⟩ (L2.wipe σ vs) ρ (ES s.e σ ++ T) H := by
  refine ⟨by rw [wipeE_len, wipe_length]; exact g.le, g.lr, fun i j e => ?_, ?_⟩
  · rcases wipeE_get e with z | ⟨z1, z2⟩
    · cases z
    · obtain ⟨v, e1, e2⟩ := g.al i j z1
      exact ⟨v, by rw [wipe_keep z2]; exact e1, e2⟩
  · obtain ⟨F, f⟩ := g.ok.fz
    have f2 : Fz K F (ES s.e σ ++ (T ++ (ES s.e σ ++ RS s.R ρ))) H := Fz.es g.le (fun i x v h1 h2 => f.at (List.mem_append_right _ (List.mem_append_left _ (List.mem_of_getElem? (es_get h1 h2))))) f
    have ok : OK K ((ES s.e σ ++ T) ++ (ES s.e σ ++ RS s.R ρ)) H := by rw [List.append_assoc]; exact f2.ok
    exact OK.wipe g.le ok vs
/-- out of it -/
theorem Sat.unblk {R : List Own} {ρ' : List V} {e' : List SD} {σ' : L2.St} {A : List En} (g : Sat K s σ ρ T H) {H' : Hp} {T' : List En} (p : ρ <+: ρ') (h : Sat K ⟨e', R⟩ σ' ρ' (A ++ (ES s.e σ ++ T')) H') : Sat K ⟨s.e, R⟩ σ ρ' (A ++ T') H' := by
  refine ⟨g.le, h.lr, fun i j e => ?_, ?_⟩
  · obtain ⟨v, e1, e2⟩ := g.al i j e
    exact ⟨v, e1, VR.mono (r := .r j) e2 p⟩
  · have k : OK K ((A ++ (ES s.e σ ++ T')) ++ (ES e' σ' ++ RS R ρ')) H' := h.ok
    have k2 : OK K (ES e' σ' ++ ((A ++ T') ++ (ES s.e σ ++ RS R ρ'))) H' := by
      refine k.perm ?_
      simp only [List.append_assoc]
      have q1 : (ES s.e σ ++ (T' ++ (ES e' σ' ++ RS R ρ'))).Perm (ES e' σ' ++ (T' ++ (ES s.e σ ++ RS R ρ'))) :=
        (cas _ _ _).trans (((cas (ES s.e σ) (ES e' σ') (RS R ρ')).append_left T').trans (cas _ _ _))
      exact (q1.append_left A).trans (cas _ _ _)
    exact k2.right
end
def ZTs (X : Cx) (ifs : List Expr) (s : S) (R : Bool → S → Prop) : Prop := PTs X ifs (tT X.K s R)
section
variable {X : Cx} {tg e a b elt iter : Expr} {es ifs : List Expr} {s s' s1 s2 : S} {ds : List PyData} {pos p : Pos} {i j : Int}
theorem zts_nil : ZTs X [] s (Is true s) := ⟨fun pins sh σ H Q I ⟨T, ρ, g, q⟩ => pts_nil.run pins sh σ H Q I (q true s ρ H ⟨rfl, rfl⟩ (pre_refl ρ) g)⟩
theorem zts_one {R : Bool → S → Prop} {c : Expr} (h : ZT X c s R) : ZTs X [c] s R := pts_one h
abbrev bl (X : Cx) (scope : Scope) (z : Shared × Hp × Addr × List (Str × Addr) × List Addr) : Cx := X.blk z.1 z.2.1 scope (compEnvC scope z.2.2.2.1 z.2.2.1 X.env) z.2.2.2.2
theorem lc_run {scope : Scope} {own : List (Str × Nat)} {vs : List Nat} (hvs : own.map (·.2) = vs) (Iv : Nat → List PyData → List Own → Prop) (h0 : Iv 0 [] s1.R)
    (turn : ∀ i x acc R, ds[i]? = some x → Iv i acc R → ∃ t' Rt, (∀ z, ZG (bl X scope z) tg vs x ⟨wipeE s1.e vs, R⟩ t') ∧ (∀ z, ZTs (bl X scope z) ifs t' Rt) ∧ (∀ t2, Rt false t2 → Iv (i + 1) acc t2.R) ∧
      ∀ t2, Rt true t2 → ∃ y t3, (∀ z, ZE (bl X scope z) elt t2 (.d y) t3) ∧ Iv (i + 1) (acc ++ [y]) t3.R) (hsz : ds.length < sizeLine)
    (hi : ZI X tg iter s ds s1) (hN : X.N.Nodup) (hc : X.calm = true) (ok : BlkOk X.N X.env.scope scope own) (hs : ∀ x, foldedSetIterable iter X.env x = pure x) :
    ∃ te, (PE X (.ListComp elt [⟨tg, iter, ifs, 0⟩] scope pos) te ∧ ∀ (i : Nat) (y : Str) (py spos : Pos), X.N[i]? = some y → X.env.scope.names.lookup y = some .local → swapsWith (.ListComp elt [⟨tg, iter, ifs, 0⟩] scope pos) (some (.Name y py)) spos.line X.env = pure true → PS X (.Assign [.Name y py] (.ListComp elt [⟨tg, iter, ifs, 0⟩] scope pos) spos) (tAsg te (gName i))) ∧ ∀ T σ ρ H Q, Sat X.K s σ ρ T H →
      (∀ acc R ρ' D H', Iv ds.length acc R → ρ <+: ρ' → Sat X.K ⟨s1.e, R⟩ σ ρ' ((IT.o (OL acc), some (.ref D)) :: T) H' → Q (.ref D) H') → te σ H Q := by
  subst hvs
  have hg : ∀ (sh : Shared) (H : Hp) (C : Addr) (cl : List (Str × Addr)) (fp : List Addr), PG (X.blk sh H scope (compEnvC scope cl C X.env) fp) tg (fun v σ H Q => ∃ x t t', (∀ z, ZG (bl X scope z) tg (own.map (·.2)) x t t') ∧ tG X.K (own.map (·.2)) x t t' v σ H Q) := fun sh H C cl fp =>
    ⟨fun pins sh' σ H' v u Q I r ⟨x, t, t', m, q⟩ => (m (sh, H, C, cl, fp)).run pins sh' σ H' v u Q I r q⟩
  have ht : ∀ (sh : Shared) (H : Hp) (C : Addr) (cl : List (Str × Addr)) (fp : List Addr), PTs (X.blk sh H scope (compEnvC scope cl C X.env) fp) ifs (fun σ H Q => ∃ t R, (∀ z, ZTs (bl X scope z) ifs t R) ∧ tT X.K t R σ H Q) := fun sh H C cl fp =>
    ⟨fun pins sh' σ H' Q I ⟨t, R, m, q⟩ => (m (sh, H, C, cl, fp)).run pins sh' σ H' Q I q⟩
  have he : ∀ (sh : Shared) (H : Hp) (C : Addr) (cl : List (Str × Addr)) (fp : List Addr), PE (X.blk sh H scope (compEnvC scope cl C X.env) fp) elt (fun σ H Q => ∃ t y t', (∀ z, ZE (bl X scope z) elt t (.d y) t') ∧ tE X.K t (.d y) t' σ H Q) := fun sh H C cl fp =>
    ⟨fun pins sh' σ H' Q I ⟨t, y, t', m, q⟩ => (m (sh, H, C, cl, fp)).run pins sh' σ H' Q I q⟩
  refine ⟨_, ⟨pe_lc hc hN hi ok hg ht he hs, fun i y py spos hy hyl hsw => ps_setLc hc hN hy hyl hsw hi ok hg ht he hs⟩, fun T σ ρ H Q g fin => ?_⟩
  refine ⟨T, ρ, g, fun J T0 ρ1 H1 p1 g1 w D hD => ?_⟩
  -- the block's start
  have gb := g1.blk (own.map (·.2))
  have gD : Sat X.K ⟨wipeE s1.e (own.map (·.2)), s1.R⟩ (wipe σ (own.map (·.2))) ρ1 ((IT.o (OL []), some (.ref D)) :: (ES s1.e σ ++ (T0 ++ T))) (upd H1 D (.lst [])) := by
    obtain ⟨F, f⟩ := gb.ok.fz
    exact gb.of (f.lstO (ds := []) (vs := []) .nil hD)
  refine ⟨fun i m H' => m = ds.length - i ∧ i ≤ ds.length ∧ ∃ acc R ρ', Iv i acc R ∧ acc.length ≤ i ∧ ρ1 <+: ρ' ∧ Sat X.K ⟨wipeE s1.e (own.map (·.2)), R⟩ (wipe σ (own.map (·.2))) ρ' ((IT.o (OL acc), some (.ref D)) :: (ES s1.e σ ++ (T0 ++ T))) H', ⟨_, rfl, Nat.zero_le _, [], s1.R, ρ1, h0, Nat.le_refl _, pre_refl _, gD⟩, ?_⟩
  rintro i m H' ⟨rfl, hi', acc, R, ρ', iv, hacc, p', g'⟩
  have okw : OK X.K (T0 ++ ((IT.o (OL acc), some (.ref D)) :: (ES s1.e σ ++ T) ++ (ES (wipeE s1.e (own.map (·.2))) (wipe σ (own.map (·.2))) ++ RS R ρ'))) H' := by
    refine g'.ok.perm ?_
    show ([(IT.o (OL acc), some (V.ref D))] ++ (ES s1.e σ ++ (T0 ++ T)) ++ (ES (wipeE s1.e (own.map (·.2))) (wipe σ (own.map (·.2))) ++ RS R ρ')).Perm (T0 ++ ([(IT.o (OL acc), some (V.ref D))] ++ (ES s1.e σ ++ T) ++ (ES (wipeE s1.e (own.map (·.2))) (wipe σ (own.map (·.2))) ++ RS R ρ')))
    simp only [List.append_assoc]
    exact ((cas (ES s1.e σ) T0 _).append_left _).trans (cas _ _ _)
  obtain ⟨w1, w2⟩ := w _ H' okw
  by_cases hlt : i < ds.length
  · obtain ⟨go, yl⟩ := w1 i ds[i] (List.getElem?_eq_getElem hlt)
    obtain ⟨t', Rt, hG, hT, hF, hE⟩ := turn i ds[i] acc R (List.getElem?_eq_getElem hlt) iv
    refine .inr ⟨go, fun H3 => ∃ acc R ρ', Iv (i + 1) acc R ∧ acc.length ≤ i + 1 ∧ ρ1 <+: ρ' ∧ Sat X.K ⟨wipeE s1.e (own.map (·.2)), R⟩ (wipe σ (own.map (·.2))) ρ' ((IT.o (OL acc), some (.ref D)) :: (ES s1.e σ ++ (T0 ++ T))) H3,
      fun H3 ⟨a1, a2, a3, a4⟩ => ⟨ds.length - (i + 1), by omega, rfl, hlt, a1, a2, a3, a4⟩, fun v H4 y => ?_⟩
    have okv := yl v H4 y
    have g4 : Sat X.K ⟨wipeE s1.e (own.map (·.2)), R⟩ (wipe σ (own.map (·.2))) ρ' ((IT.d ds[i], some v) :: ((IT.o (OL acc), some (.ref D)) :: (ES s1.e σ ++ (T0 ++ T)))) H4 := by
      refine ⟨g'.le, g'.lr, g'.al, okv.perm (List.Perm.cons _ ?_)⟩
      show (T0 ++ ([(IT.o (OL acc), some (V.ref D))] ++ (ES s1.e σ ++ T) ++ (ES (wipeE s1.e (own.map (·.2))) (wipe σ (own.map (·.2))) ++ RS R ρ'))).Perm ([(IT.o (OL acc), some (V.ref D))] ++ (ES s1.e σ ++ (T0 ++ T)) ++ (ES (wipeE s1.e (own.map (·.2))) (wipe σ (own.map (·.2))) ++ RS R ρ'))
      simp only [List.append_assoc]
      exact (cas _ _ _).trans ((cas T0 (ES s1.e σ) _).append_left _)
    -- the same again with a second copy of the frame, for the way back
    refine ⟨ds[i], _, t', hG, _, ρ', ⟨g4.le, g4.lr, g4.al, g4.ok⟩, fun σ2 o g5 => ⟨wipe_off o, ?_⟩⟩
    have back : ∀ {R2 : List Own} {e2 : List SD} {ρ2 : List V} {acc2 : List PyData} {H2 : Hp}, ρ' <+: ρ2 → Sat X.K ⟨e2, R2⟩ σ2 ρ2 ((IT.o (OL acc2), some (.ref D)) :: (ES s1.e σ ++ (T0 ++ T))) H2 →
        Sat X.K ⟨wipeE s1.e (own.map (·.2)), R2⟩ (wipe σ (own.map (·.2))) ρ2 ((IT.o (OL acc2), some (.ref D)) :: (ES s1.e σ ++ (T0 ++ T))) H2 := fun {R2 e2 ρ2 acc2 H2} p2 g2 => by
      have b := g1.unblk (A := [(IT.o (OL acc2), some (.ref D))]) (p'.trans p2) g2
      have b2 := b.blk (own.map (·.2))
      refine b2.tperm ?_
      exact List.perm_middle
    refine ⟨t', Rt, hT, _, ρ', g5, fun b t2 ρ2 H5 hr p2 g6 => ?_⟩
    cases b with
    | false => exact ⟨acc, t2.R, ρ2, hF t2 hr, by omega, p'.trans p2, back p2 g6⟩
    | true =>
      obtain ⟨yd, t3, hy, iv3⟩ := hE t2 hr
      show ∃ _, _
      refine ⟨t2, yd, t3, hy, _, ρ2, g6, fun u ρ3 H6 p3 _ g7 => ?_⟩
      have g8 : OK X.K ((IT.o (OL acc), some (.ref D)) :: ((IT.d yd, some u) :: (ES s1.e σ ++ (T0 ++ T)) ++ (ES t3.e σ2 ++ RS t3.R ρ3))) H6 := g7.ok.perm (List.Perm.swap _ _ _)
      obtain ⟨F, f⟩ := g8.fz
      obtain ⟨pD, vs, e3, h1, h2, h3⟩ := f.putL (ds' := acc)
      cases e3
      obtain ⟨u', e4, hu⟩ := f.at (x := yd) (v := some u) (List.mem_cons_of_mem _ List.mem_cons_self)
      cases e4
      refine ⟨vs, h1, by rw [dpsLen h2]; omega, acc ++ [yd], t3.R, ρ3, iv3, by rw [List.length_append]; exact Nat.succ_le_succ hacc, (p'.trans p2).trans p3, back (e2 := t3.e) (p2.trans p3) ?_⟩
      have k := h3 (acc ++ [yd]) (vs ++ [u]) (dpsApp h2 (.cons hu .nil))
      exact ⟨g7.le, g7.lr, g7.al, ((k.perm (List.Perm.swap _ _ _)).tail)⟩
  · have e : i = ds.length := by omega
    subst e
    refine .inl ⟨w2, fin acc R ρ' D H' iv (p1.trans p') ?_⟩
    have b := g1.unblk (A := [(IT.o (OL acc), some (.ref D))]) p' g'
    have b2 : Sat X.K ⟨s1.e, R⟩ σ ρ' ((IT.o (OL acc), some (.ref D)) :: (T0 ++ T)) H' := b
    have b3 : Sat X.K ⟨s1.e, R⟩ σ ρ' (T0 ++ ((IT.o (OL acc), some (.ref D)) :: T)) H' := b2.tperm List.perm_middle.symm
    exact b3.tdrops
/-- a comprehension: its list is kept for good -/
theorem ze_lcD {scope : Scope} {own : List (Str × Nat)} {vs : List Nat} {acc0 : List PyData} {R0 : List Own} (hi : ZI X tg iter s ds s1) (Iv : Nat → List PyData → List Own → Prop) (h0 : Iv 0 [] s1.R)
    (turn : ∀ i x acc R, ds[i]? = some x → Iv i acc R → ∃ t' Rt, (∀ z, ZG (bl X scope z) tg vs x ⟨wipeE s1.e vs, R⟩ t') ∧ (∀ z, ZTs (bl X scope z) ifs t' Rt) ∧ (∀ t2, Rt false t2 → Iv (i + 1) acc t2.R) ∧
      ∀ t2, Rt true t2 → ∃ y t3, (∀ z, ZE (bl X scope z) elt t2 (.d y) t3) ∧ Iv (i + 1) (acc ++ [y]) t3.R)
    (done : ∀ acc R, Iv ds.length acc R → acc = acc0 ∧ R = R0) (hsz : ds.length < sizeLine) (hN : X.N.Nodup) (ok : BlkOk X.N X.env.scope scope own) (hvs : own.map (·.2) = vs := by rfl) (hc : X.calm = true := by rfl) (hs : ∀ x, foldedSetIterable iter X.env x = pure x := by intro _; rfl) :
    ZE X (.ListComp elt [⟨tg, iter, ifs, 0⟩] scope pos) s (.d (.list acc0)) ⟨s1.e, R0⟩ := by
  obtain ⟨te, ⟨h, _⟩, run⟩ := lc_run (pos := pos) hvs Iv h0 turn hsz hi hN hc ok hs
  refine PE.imp h fun σ H Q ⟨T, ρ, g, k⟩ => run T σ ρ H Q g fun acc R ρ' D H' iv p g' => ?_
  obtain ⟨e1, e2⟩ := done acc R iv
  subst e1 e2
  obtain ⟨F, f⟩ := g'.ok.fz
  exact k _ ρ' H' p trivial ⟨g'.le, g'.lr, g'.al, f.freeze⟩
/-- .. or of its own -/
theorem ze_lcO {scope : Scope} {own : List (Str × Nat)} {vs : List Nat} {acc0 : List PyData} {R0 : List Own} (hi : ZI X tg iter s ds s1) (Iv : Nat → List PyData → List Own → Prop) (h0 : Iv 0 [] s1.R)
    (turn : ∀ i x acc R, ds[i]? = some x → Iv i acc R → ∃ t' Rt, (∀ z, ZG (bl X scope z) tg vs x ⟨wipeE s1.e vs, R⟩ t') ∧ (∀ z, ZTs (bl X scope z) ifs t' Rt) ∧ (∀ t2, Rt false t2 → Iv (i + 1) acc t2.R) ∧
      ∀ t2, Rt true t2 → ∃ y t3, (∀ z, ZE (bl X scope z) elt t2 (.d y) t3) ∧ Iv (i + 1) (acc ++ [y]) t3.R)
    (done : ∀ acc R, Iv ds.length acc R → acc = acc0 ∧ R = R0) (hsz : ds.length < sizeLine) (hN : X.N.Nodup) (ok : BlkOk X.N X.env.scope scope own) (hvs : own.map (·.2) = vs := by rfl) (hc : X.calm = true := by rfl) (hs : ∀ x, foldedSetIterable iter X.env x = pure x := by intro _; rfl) :
    ZE X (.ListComp elt [⟨tg, iter, ifs, 0⟩] scope pos) s (.r R0.length) ⟨s1.e, R0 ++ [OL acc0]⟩ := by
  obtain ⟨te, ⟨h, _⟩, run⟩ := lc_run (pos := pos) hvs Iv h0 turn hsz hi hN hc ok hs
  refine PE.imp h fun σ H Q ⟨T, ρ, g, k⟩ => run T σ ρ H Q g fun acc R ρ' D H' iv p g' => ?_
  obtain ⟨e1, e2⟩ := done acc R iv
  subst e1 e2
  refine k _ (ρ' ++ [.ref D]) H' (p.trans (List.prefix_append _ _)) (Sat.newVR (s := ⟨s1.e, R⟩) g') (Sat.tun ?_)
  exact Sat.push (s := ⟨s1.e, R⟩) g'.ok g'.le g'.lr g'.al
end

/-! ### functions -/
def ie (ds : List IT) (vs : List V) : List En := List.zipWith (fun i v => (i, some v)) ds vs
def sl : List IT → Nat → List SD
  | [], _ => []
  | .o _ :: r, n => .r n :: sl r (n + 1)
  | .d x :: r, n => .d x :: sl r n
  | .un :: r, n => .un :: sl r n
def objs : List IT → List Own
  | [] => []
  | .o P :: r => P :: objs r
  | _ :: r => objs r
def vals : List IT → List V → List V
  | .o _ :: r, v :: vs => v :: vals r vs
  | _ :: r, _ :: vs => vals r vs
  | _, _ => []
def back : List IT → List Own → List IT
  | [], _ => []
  | .o _ :: r, P :: Os => .o P :: back r Os
  | .o _ :: r, [] => .un :: back r []
  | _ :: r, Os => .un :: back r Os
/-- a def's promise: what is asked of the arguments; result and objects behind it -/
def spZ (K : PySem.W.Frag) (Pre : List IT → Prop) (Rel : List IT → IT → List Own → Prop) : Sp := fun vs H Q _ => ∃ ds T, Pre ds ∧ ds.length = vs.length ∧ OK K (ie ds vs ++ T) H ∧
  ∀ z Os v H', Rel ds z Os → OK K ((z, some v) :: (ie (back ds Os) vs ++ T)) H' → Q v H'
section
variable {K : PySem.W.Frag} {H : Hp}
theorem vals_len : ∀ {ds : List IT} {vs : List V}, ds.length = vs.length → (vals ds vs).length = (objs ds).length
  | [], [], _ => rfl
  | .o P :: r, v :: vs, h => by simp [vals, objs, vals_len (ds := r) (vs := vs) (by simpa using h)]
  | .d x :: r, v :: vs, h => by simp [vals, objs, vals_len (ds := r) (vs := vs) (by simpa using h)]
  | .un :: r, v :: vs, h => by simp [vals, objs, vals_len (ds := r) (vs := vs) (by simpa using h)]
  | [], _ :: _, h => by simp at h
  | _ :: _, [], h => by simp at h
theorem sl_len : ∀ {ds : List IT} {n : Nat}, (sl ds n).length = ds.length
  | [], _ => rfl
  | .o P :: r, n => by simp [sl, sl_len (ds := r)]
  | .d x :: r, n => by simp [sl, sl_len (ds := r)]
  | .un :: r, n => by simp [sl, sl_len (ds := r)]
theorem enter : ∀ {ds : List IT} {vs : List V} {n : Nat} {T : List En}, ds.length = vs.length → OK K (ie ds vs ++ T) H → OK K (T ++ (ES (sl ds n) (vs.map some) ++ RS (objs ds) (vals ds vs))) H
  | [], [], n, T, _, h => by
    show OK K (T ++ []) H
    rw [List.append_nil]
    exact h
  | .o P :: r, v :: vs, n, T, hl, h => by
    have h1 : OK K (ie r vs ++ ((IT.o P, some v) :: T)) H := OK.perm List.perm_middle.symm h
    have h2 := enter (ds := r) (vs := vs) (n := n + 1) (T := (IT.o P, some v) :: T) (by simpa using hl) h1
    have h3 : OK K ((IT.un, some v) :: ((IT.o P, some v) :: (T ++ (ES (sl r (n + 1)) (vs.map some) ++ RS (objs r) (vals r vs))))) H := OK.un h2
    refine h3.perm ?_
    show ([(IT.un, some v)] ++ ([(IT.o P, some v)] ++ (T ++ (ES (sl r (n + 1)) (vs.map some) ++ RS (objs r) (vals r vs))))).Perm (T ++ ([(IT.un, some v)] ++ ES (sl r (n + 1)) (vs.map some) ++ ([(IT.o P, some v)] ++ RS (objs r) (vals r vs))))
    simp only [List.append_assoc]
    refine ((((cas _ _ _).append_left _).trans (cas _ _ _)).trans (List.Perm.append_left _ ?_))
    exact (cas _ _ _).append_left _
  | .d x :: r, v :: vs, n, T, hl, h => by
    have h1 : OK K (ie r vs ++ ((IT.d x, some v) :: T)) H := OK.perm List.perm_middle.symm h
    have h2 := enter (ds := r) (vs := vs) (n := n) (T := (IT.d x, some v) :: T) (by simpa using hl) h1
    exact OK.perm List.perm_middle.symm h2
  | .un :: r, v :: vs, n, T, hl, h => by
    have h1 : OK K (ie r vs ++ ((IT.un, some v) :: T)) H := OK.perm List.perm_middle.symm h
    have h2 := enter (ds := r) (vs := vs) (n := n) (T := (IT.un, some v) :: T) (by simpa using hl) h1
    exact OK.perm List.perm_middle.symm h2
  | [], _ :: _, _, _, h, _ => by simp at h
  | _ :: _, [], _, _, h, _ => by simp at h
theorem leave : ∀ {ds : List IT} {vs : List V} {R : List Own} {T : List En}, ds.length = vs.length → R.length = (objs ds).length → OK K (T ++ RS R (vals ds vs)) H → OK K (ie (back ds R) vs ++ T) H
  | [], [], R, T, _, hr, h => by
    cases R with
    | nil => rw [show T ++ RS [] (vals [] []) = T from List.append_nil T] at h; exact h
    | cons => simp [objs] at hr
  | .o P :: r, v :: vs, P' :: R, T, hl, hr, h => by
    have h1 : OK K (((IT.o P', some v) :: T) ++ RS R (vals r vs)) H := by
      refine OK.perm ?_ h
      exact List.perm_middle
    have h2 := leave (ds := r) (vs := vs) (R := R) (T := (IT.o P', some v) :: T) (by simpa using hl) (by simpa [objs] using hr) h1
    exact OK.perm List.perm_middle h2
  | .o P :: r, v :: vs, [], T, hl, hr, h => by simp [objs] at hr
  | .d x :: r, v :: vs, R, T, hl, hr, h => by
    have h2 := leave (ds := r) (vs := vs) (R := R) (T := T) (by simpa using hl) (by simpa [objs] using hr) h
    cases R <;> exact h2.un
  | .un :: r, v :: vs, R, T, hl, hr, h => by
    have h2 := leave (ds := r) (vs := vs) (R := R) (T := T) (by simpa using hl) (by simpa [objs] using hr) h
    cases R <;> exact h2.un
  | [], _ :: _, _, _, h, _, _ => by simp at h
  | _ :: _, [], _, _, h, _, _ => by simp at h
theorem sl_ref : ∀ {ds : List IT} {vs : List V} {n i j : Nat}, ds.length = vs.length → (sl ds n)[i]? = some (SD.r j) → n ≤ j ∧ ∃ v, vs[i]? = some v ∧ (vals ds vs)[j - n]? = some v
  | [], [], _, i, _, _, e => by simp [sl] at e
  | .o P :: r, v :: vs, n, 0, j, hl, e => by
    simp [sl] at e
    subst e
    exact ⟨Nat.le_refl _, v, rfl, by simp [vals]⟩
  | .o P :: r, v :: vs, n, i + 1, j, hl, e => by
    obtain ⟨h0, w, h1, h2⟩ := sl_ref (ds := r) (vs := vs) (n := n + 1) (i := i) (j := j) (by simpa using hl) (by simpa [sl] using e)
    refine ⟨by omega, w, by simpa using h1, ?_⟩
    rw [show j - n = (j - (n + 1)) + 1 by omega]
    simpa [vals] using h2
  | .d x :: r, v :: vs, n, 0, j, hl, e => by simp [sl] at e
  | .d x :: r, v :: vs, n, i + 1, j, hl, e => by
    obtain ⟨h0, w, h1, h2⟩ := sl_ref (ds := r) (vs := vs) (n := n) (i := i) (j := j) (by simpa using hl) (by simpa [sl] using e)
    exact ⟨h0, w, by simpa using h1, by simpa [vals] using h2⟩
  | .un :: r, v :: vs, n, 0, j, hl, e => by simp [sl] at e
  | .un :: r, v :: vs, n, i + 1, j, hl, e => by
    obtain ⟨h0, w, h1, h2⟩ := sl_ref (ds := r) (vs := vs) (n := n) (i := i) (j := j) (by simpa using hl) (by simpa [sl] using e)
    exact ⟨h0, w, by simpa using h1, by simpa [vals] using h2⟩
  | [], _ :: _, _, _, _, h, _ => by simp at h
  | _ :: _, [], _, _, _, h, _ => by simp at h
theorem es_un : ∀ (e : List SD) (vs : List V) (n : Nat) {T : List En}, e.length = vs.length → OK K (T ++ ES e (vs.map some)) H → OK K (T ++ ES (e ++ List.replicate n .un) (vs.map some ++ List.replicate n none)) H := fun e vs n T hl h => by
  have q : ES (e ++ List.replicate n .un) (vs.map some ++ List.replicate n none) = ES e (vs.map some) ++ List.replicate n (IT.un, none) := by
    unfold ES
    rw [List.zipWith_append (by rw [List.length_map]; exact hl)]
    congr 1
    exact List.zipWith_replicate' ..
  rw [q]
  induction n with
  | zero => rw [List.replicate_zero, List.append_nil]; exact h
  | succ n ih =>
    have k := OK.un (v := none) (ih (by unfold ES; rw [List.zipWith_append (by rw [List.length_map]; exact hl)]; congr 1; exact List.zipWith_replicate' ..))
    refine k.perm ?_
    rw [List.replicate_succ, ← List.append_assoc, ← List.append_assoc]
    exact List.perm_middle.symm
/-- what a return hands back -/
def retOK (b : Nat) (ds : List IT) (Rel : List IT → IT → List Own → Prop) (r : SD) (t : S) : Prop := match r with
  | .d x => Rel ds (.d x) (t.R.take b)
  | .r j => b ≤ j ∧ ((∃ P, t.R[j]? = some P ∧ Rel ds (.o P) (t.R.take b)) ∨ ∃ es, t.R[j]? = some (OL es) ∧ Rel ds (.d (.list es)) (t.R.take b))
  | .un => False
def inSt (ds : List IT) (n : Nat) : S := ⟨sl ds 0 ++ List.replicate n .un, objs ds⟩
def inPo (ds : List IT) (Rel : List IT → IT → List Own → Prop) : Po := { b := (objs ds).length, nx := fun t => Rel ds (.d .none) (t.R.take (objs ds).length), rt := retOK (objs ds).length ds Rel }
theorem take_set {α : Type} {l : List α} {b j : Nat} {x : α} (h : b ≤ j) : (l.set j x).take b = l.take b := by
  apply List.ext_getElem?
  intro i
  by_cases hi : i < b
  · rw [List.getElem?_take_of_lt hi, List.getElem?_take_of_lt hi, List.getElem?_set_ne (by omega)]
  · rw [List.getElem?_eq_none (by rw [List.length_take]; omega), List.getElem?_eq_none (by rw [List.length_take]; omega)]
theorem run_body {Rel : List IT → IT → List Own → Prop} {ds : List IT} {T : List En} {vs : List V} {Q : VK} {N : List Str} {X : Cx} {body : List Stmt} (hK : X.K = K) (hl : ds.length = vs.length) (ok : OK K (ie ds vs ++ T) H) (q : ∀ z Os v H', Rel ds z Os → OK K ((z, some v) :: (ie (back ds Os) vs ++ T)) H' → Q v H')
    (h : ZSs X body (inSt ds (N.length - vs.length)) (inPo ds Rel)) : ∃ t, PSs X body t ∧ t { nx := fun _ H' => Q .non H', rt := Q } (start N vs) H := by
  refine ⟨_, h, inSt ds (N.length - vs.length), T, vals ds vs, rfl, Nat.le_of_eq (vals_len hl).symm, ?_, ?_⟩
  · refine ⟨?_, (vals_len hl).symm, fun i j e => ?_, ?_⟩
    · show (sl ds 0 ++ List.replicate _ _).length = (vs.map some ++ List.replicate _ none).length
      simp [sl_len, hl]
    · have e' : (sl ds 0 ++ List.replicate (N.length - vs.length) SD.un)[i]? = some (SD.r j) := e
      by_cases hi : i < (sl ds 0).length
      · rw [List.getElem?_append_left hi] at e'
        obtain ⟨_, v, h1, h2⟩ := sl_ref hl e'
        refine ⟨v, ?_, by simpa using h2⟩
        show (vs.map some ++ _)[i]? = _
        rw [List.getElem?_append_left (by rw [List.length_map, ← hl, ← sl_len (n := 0)]; exact hi), List.getElem?_map, h1]
        rfl
      · rw [List.getElem?_append_right (by omega)] at e'
        rw [List.getElem?_replicate] at e'
        split at e' <;> cases e'
    · rw [hK]
      have k := enter (n := 0) hl ok
      have k2 : OK K ((RS (objs ds) (vals ds vs) ++ T) ++ ES (sl ds 0) (vs.map some)) H := by
        refine k.perm ?_
        rw [← List.append_assoc]
        refine (List.perm_append_comm).trans ?_
        rw [← List.append_assoc]
      have k3 := es_un (sl ds 0) vs (N.length - vs.length) (T := RS (objs ds) (vals ds vs) ++ T) (by rw [sl_len]; exact hl) k2
      refine k3.perm ?_
      show (RS (objs ds) (vals ds vs) ++ T ++ ES (sl ds 0 ++ List.replicate (N.length - vs.length) SD.un) (vs.map some ++ List.replicate (N.length - vs.length) none)).Perm (T ++ (ES (sl ds 0 ++ List.replicate (N.length - vs.length) SD.un) (vs.map some ++ List.replicate (N.length - vs.length) none) ++ RS (objs ds) (vals ds vs)))
      rw [List.append_assoc]
      refine (List.perm_append_comm).trans ?_
      rw [List.append_assoc]
  · have lv := vals_len (ds := ds) (vs := vs) hl
    have tk : (vals ds vs).take (inPo ds Rel).b = vals ds vs := List.take_of_length_le (by rw [lv]; exact Nat.le_refl _)
    rw [tk, hK]
    -- out of the end's state: the objects of the arguments
    have out : ∀ {s' : S} {σ' : L2.St} {ρ' : List V} {H' : Hp} {A : List En}, vals ds vs <+: ρ' → Sat K s' σ' ρ' (A ++ T) H' → OK K (A ++ (ie (back ds (s'.R.take (objs ds).length)) vs ++ T)) H' := fun {s' σ' ρ' H' A} p g => by
      obtain ⟨m, rfl⟩ := p
      have lr := g.lr
      rw [List.length_append] at lr
      have q1 : RS s'.R (vals ds vs ++ m) = RS (s'.R.take (objs ds).length) (vals ds vs) ++ RS (s'.R.drop (objs ds).length) m := by
        unfold RS
        rw [← List.zipWith_append (by rw [List.length_take, lv]; omega), List.take_append_drop]
      have k := g.ok
      rw [q1] at k
      have k2 : OK K ((ES s'.e σ' ++ RS (s'.R.drop (objs ds).length) m) ++ ((A ++ T) ++ RS (s'.R.take (objs ds).length) (vals ds vs))) H' := by
        refine k.perm ?_
        simp only [List.append_assoc]
        refine ((cas T _ _).append_left A).trans ?_
        refine (cas A _ _).trans ?_
        refine List.Perm.append_left _ ?_
        refine ((List.Perm.append_left T (List.perm_append_comm)).append_left A).trans ?_
        refine ((cas T _ _).append_left A).trans ?_
        exact cas A _ _
      have k3 := leave hl (by rw [List.length_take]; omega) k2.right
      exact k3.perm (cas _ _ _)
    refine ⟨fun s' σ' ρ' H' a p g => ?_, fun r s' σ' ρ' H' v a p vr g => ?_, fun _ _ _ _ z => z.elim, fun _ _ _ _ z => z.elim⟩
    · exact q _ _ .non H' a (OK.flat (show flat .non .none from trivial) (out (A := []) p g))
    · cases r with
      | un => exact a.elim
      | d x => exact q _ _ v H' a (out (A := [(IT.d x, some v)]) p g)
      | r j =>
        obtain ⟨hb, a⟩ := a
        rcases a with ⟨P, hP, a⟩ | ⟨es, hP, a⟩
        · obtain ⟨w, e2, ok2, _⟩ := g.obj hP
          have ev : w = v := Option.some.inj (e2.symm.trans vr)
          subst ev
          -- the object's own place is given up
          have g3 : Sat K ⟨s'.e, s'.R.set j gone⟩ σ' ρ' ([(IT.o P, some w)] ++ T) H' := by
            refine ZE.frz.back2 (P := P) (T2 := [(IT.o P, some w)] ++ T) g hP e2 ?_
            have k := (OK.perm (List.Perm.swap _ _ _) ok2).tail
            obtain ⟨F2, L, e1, gg⟩ := k
            have c := gg.oCons (v := w) (P := gone) (fp := []) rfl List.nodup_nil (fun a ha => by cases ha) (fun a ha => by cases ha)
            exact ⟨F2, (((IT.o gone, some w), []) :: L), by rw [List.map_cons, e1]; rfl, c⟩
          refine q _ _ w H' a ?_
          have k := out p g3
          rw [show (⟨s'.e, s'.R.set j gone⟩ : S).R = s'.R.set j gone from rfl, take_set hb] at k
          exact k
        · obtain ⟨w, e2, ok2, _⟩ := g.obj hP
          have ev : w = v := Option.some.inj (e2.symm.trans vr)
          subst ev
          obtain ⟨F, f⟩ := ok2.fz
          have g3 : Sat K ⟨s'.e, s'.R.set j gone⟩ σ' ρ' ([(IT.d (.list es), some w)] ++ T) H' := by
            refine ZE.frz.back2 (P := OL es) (T2 := [(IT.d (.list es), some w)] ++ T) g hP e2 ?_
            have k := (OK.perm (List.Perm.swap _ _ _) f.freeze).tail
            obtain ⟨F2, L, e1, gg⟩ := k
            have c := gg.oCons (v := w) (P := gone) (fp := []) rfl List.nodup_nil (fun a ha => by cases ha) (fun a ha => by cases ha)
            exact ⟨F2, (((IT.o gone, some w), []) :: L), by rw [List.map_cons, e1]; rfl, c⟩
          refine q _ _ w H' a ?_
          have k := out p g3
          rw [show (⟨s'.e, s'.R.set j gone⟩ : S).R = s'.R.set j gone from rfl, take_set hb] at k
          exact k
end
end Z

namespace Z
open PySem L2 PyProof.Rows

abbrev Pre := List IT → Prop
abbrev Rel := List IT → IT → List Own → Prop
/-- a def that may be called by its name and raises nothing -/
structure Cal (P : Program) (w : World) (K : PySem.W.Frag) (mg : Str → Option Value) (base : Heap) (k : Nat) (x : Str) (pre : Pre) (rel : Rel) : Prop where
  ex : ∃ (f : Addr) (fd : FuncData) (ps : List Str), FnOk P w K mg base CX0 k f fd ps (spZ K pre rel) ∧ mg x = some (.ref f) ∧ PySem.W.keepIn K (.ref f) = true ∧ Binds K fd ps []
/-- the text of a def, by its name: what the top has left -/
structure Dfn (K : PySem.W.Frag) (mg : Str → Option Value) (x : Str) (st : Stmt) (ps : List Str) : Prop where
  ex : ∃ (f : Addr) (fd : FuncData), Fun K x x st f fd ∧ mg x = some (.ref f) ∧ Binds K fd ps []
section
variable {P : Program} {w : World} {K : PySem.W.Frag} {mg : Str → Option Value} {base : Heap} {x : Str} {st : Stmt} {ps N : List Str} {k : Nat} {pre : Pre} {rel : Rel}
theorem Cal.mono {j : Nat} (c : Cal P w K mg base k x pre rel) (h : k ≤ j) : Cal P w K mg base j x pre rel := let ⟨f, fd, ps, F, r⟩ := c.ex; ⟨f, fd, ps, F.mono h, r⟩
theorem Cal.imp {pre' : Pre} {rel' : Rel} (c : Cal P w K mg base k x pre rel) (h1 : ∀ ds, pre' ds → pre ds) (h2 : ∀ ds z Os, pre' ds → rel ds z Os → rel' ds z Os) : Cal P w K mg base k x pre' rel' :=
  let ⟨f, fd, ps, F, r⟩ := c.ex; ⟨f, fd, ps, F.imp fun vs H Q E ⟨ds, T, a, b, c, d⟩ => ⟨ds, T, h1 _ a, b, c, fun z Os v H' q => d z Os v H' (h2 _ _ _ a q)⟩, r⟩
/-- THE RULE for a def that raises nothing -/
theorem zfun (D : Dfn K mg x st ps) (S : FnScope N ps (defScope st)) (hlen : ∀ ds, pre ds → ds.length = ps.length)
    (body : ∀ (f : Addr) (cdv : Value) (A : Around) (outer : List Env) (s : Shared) (H : Hp) (E : XK) (ds : List IT), pre ds → Room k (A.deeper (envOfC x (defScope st) s.heap.objs.size f cdv)) →
      ZSs (cxOf CX0 P w K mg base N x (defScope st) f cdv A outer s H E).nox (defBody st) (inSt ds (N.length - ps.length)) (inPo ds rel)) : Cal P w K mg base (k + 1) x pre rel := by
  obtain ⟨f, fd, F, hm, hb⟩ := D.ex
  refine ⟨f, fd, ps, F.ok S (fun vs H Q E h => ?_) (fun cdv A outer s H vs Q E hr h => ?_), hm, F.kp, hb⟩
  · obtain ⟨ds, T, a, b, _⟩ := h
    rw [← b]
    exact hlen ds a
  · obtain ⟨ds, T, a, b, c, d⟩ := h
    refine run_body (X := (cxOf CX0 P w K mg base N x (defScope st) f cdv A outer s H E).nox) (N := N) rfl b c d ?_
    have e : vs.length = ps.length := by rw [← b]; exact hlen ds a
    rw [e]
    exact body f cdv A outer s H E ds a hr
end
section
variable {X : Cx} {e : Expr} {es : List Expr} {s s1 s2 : S} {rs : List SD} {pos p : Pos} {x : Str} {k j : Nat} {pre : Pre} {rel : Rel} {ds as bs : List PyData} {zd : PyData}
theorem tcall (c : Cal X.prog X.w X.K X.mg X.base k x pre rel) (hr : Room j X.A) (hk : k ≤ j) (h : Cl X x e es pos) (ha : ZA X (e :: es) s rs s1) (hdb : (x == ("__debug__" : Str)) = false := by decide) :
    PE X (.Call (.Name x p) (e :: es) [] pos) (tCall (spZ X.K pre rel) [] E0 (tA X.K s rs s1)) := by
  obtain ⟨f, fd, ps, F, hm, kp, b⟩ := c.ex
  exact pe_call F (hr.mono hk) h.1 hm kp b .nil pass0 ha hdb h.2.1 h.2.2
theorem its_ie : ∀ {ds : List PyData} {vs : List V}, its (ds.map .d) vs = ie (ds.map .d) vs
  | [], _ => rfl
  | _ :: _, [] => rfl
  | d :: ds, v :: vs => by
    show _ :: its (ds.map .d) vs = _ :: ie (ds.map .d) vs
    rw [its_ie]; rfl
/-- a call, of data alone, whose answer is a datum -/
theorem ze_call (c : Cal X.prog X.w X.K X.mg X.base k x pre rel) (ha : ZA X (e :: es) s (ds.map .d) s1) (hp : pre (ds.map .d)) (hq : ∀ z Os, rel (ds.map .d) z Os → z = .d zd) (hr : Room j X.A) (hk : k ≤ j := by omega) (h : Cl X x e es pos := by exact ⟨rfl, rfl, rfl⟩)
    (hdb : (x == ("__debug__" : Str)) = false := by decide) : ZE X (.Call (.Name x p) (e :: es) [] pos) s (.d zd) s1 := by
  refine PE.imp (tcall c hr hk h ha hdb) fun σ H Q ⟨T, ρ, g, q⟩ => ⟨T, ρ, g, fun vs ρ' H' p vr g' => ?_⟩
  show spZ X.K pre rel (vs ++ []) H' Q E0
  rw [List.append_nil]
  have hl : (ds.map IT.d).length = vs.length := by have := vr.1; simpa using this
  refine ⟨ds.map .d, T ++ (ES s1.e σ ++ RS s1.R ρ'), hp, hl, ?_, fun z Os v H2 hz ok => ?_⟩
  · have k := g'.ok
    rw [its_ie, List.append_assoc] at k
    exact k
  · rw [hq z Os hz] at ok
    refine q v ρ' H2 p trivial (g'.of ?_)
    exact ((OK.perm (List.perm_append_comm) (show OK X.K (([(IT.d zd, some v)] ++ ie (back (ds.map IT.d) Os) vs) ++ (T ++ (ES s1.e σ ++ RS s1.R ρ'))) H2 from by rw [List.append_assoc]; exact ok)).perm (by
      refine (List.perm_append_comm).trans ?_
      rw [List.append_assoc]
      exact cas _ _ _)).right
/-- .. an object of the store among the arguments, at j; the answer a datum -/
theorem ze_call1 {o : Nat} {O O' : Own} (c : Cal X.prog X.w X.K X.mg X.base k x pre rel) (ha : ZA X (e :: es) s (as.map .d ++ .r o :: bs.map .d) s1) (ho : s1.R[o]? = some O) (hp : pre (as.map .d ++ .o O :: bs.map .d))
    (hq : ∀ z Os, rel (as.map .d ++ .o O :: bs.map .d) z Os → z = .d zd ∧ ∃ r, Os = O' :: r) (hr : Room j X.A) (hk : k ≤ j := by omega) (h : Cl X x e es pos := by exact ⟨rfl, rfl, rfl⟩)
    (hdb : (x == ("__debug__" : Str)) = false := by decide) : ZE X (.Call (.Name x p) (e :: es) [] pos) s (.d zd) ⟨s1.e, s1.R.set o O'⟩ := by
  refine PE.imp (tcall c hr hk h ha hdb) fun σ H Q ⟨T, ρ, g, q⟩ => ⟨T, ρ, g, fun vs ρ' H' p vr g' => ?_⟩
  show spZ X.K pre rel (vs ++ []) H' Q E0
  rw [List.append_nil]
  have hl0 : as.length + (bs.length + 1) = vs.length := by have := vr.1; simpa using this
  obtain ⟨va, v0, vb, e1, e2, e3⟩ : ∃ va v0 vb, vs = va ++ v0 :: vb ∧ va.length = as.length ∧ vb.length = bs.length := by
    refine ⟨vs.take as.length, vs[as.length]'(by omega), vs.drop (as.length + 1), ?_, by rw [List.length_take]; omega, by rw [List.length_drop]; omega⟩
    rw [List.getElem_cons_drop, List.take_append_drop]
  subst e1
  have hv : ρ'[o]? = some v0 := vr.2 as.length (.r o) v0 (by rw [List.getElem?_append_right (by simp)]; simp) (by rw [List.getElem?_append_right (by omega)]; simp [e2])
  have q1 : its (as.map .d ++ .r o :: bs.map .d) (va ++ v0 :: vb) = its (as.map .d) va ++ (IT.un, some v0) :: its (bs.map .d) vb := by
    unfold its
    rw [List.zipWith_append (by simp [e2])]
    rfl
  have q2 : ie (as.map .d ++ .o O :: bs.map .d) (va ++ v0 :: vb) = its (as.map .d) va ++ (IT.o O, some v0) :: its (bs.map .d) vb := by
    rw [its_ie, its_ie]
    unfold ie
    rw [List.zipWith_append (by simp [e2])]
    rfl
  rw [q1] at g'
  obtain ⟨w, h2, ok, bk⟩ := g'.obj ho
  have ew : w = v0 := Option.some.inj (h2.symm.trans hv)
  subst ew
  have hl : (as.map IT.d ++ IT.o O :: bs.map IT.d).length = (va ++ w :: vb).length := by simp [e2, e3]
  refine ⟨as.map .d ++ .o O :: bs.map .d, T ++ (ES s1.e σ ++ (RS s1.R ρ').set o (IT.un, some w)), hp, hl, ?_, fun z Os v H2 hz ok2 => ?_⟩
  · rw [q2]
    have k : OK X.K ((IT.un, some w) :: ((IT.o O, some w) :: ((its (as.map .d) va ++ its (bs.map .d) vb) ++ (T ++ (ES s1.e σ ++ (RS s1.R ρ').set o (IT.un, some w)))))) H' := by
      refine ok.perm ?_
      refine (List.Perm.swap _ _ _).symm.trans ?_ |>.symm
      refine List.Perm.cons _ ?_
      show ([(IT.un, some w)] ++ ((its (as.map .d) va ++ its (bs.map .d) vb) ++ (T ++ (ES s1.e σ ++ (RS s1.R ρ').set o (IT.un, some w))))).Perm (its (as.map .d) va ++ ([(IT.un, some w)] ++ its (bs.map .d) vb) ++ T ++ (ES s1.e σ ++ (RS s1.R ρ').set o (IT.un, some w)))
      simp only [List.append_assoc]
      exact cas _ _ _
    refine k.tail.perm ?_
    show ([(IT.o O, some w)] ++ ((its (as.map .d) va ++ its (bs.map .d) vb) ++ (T ++ (ES s1.e σ ++ (RS s1.R ρ').set o (IT.un, some w))))).Perm (its (as.map .d) va ++ ([(IT.o O, some w)] ++ its (bs.map .d) vb) ++ (T ++ (ES s1.e σ ++ (RS s1.R ρ').set o (IT.un, some w))))
    simp only [List.append_assoc]
    exact cas _ _ _
  · obtain ⟨z1, r, z2⟩ := hq z Os hz
    subst z1 z2
    have q3 : ∀ (as : List PyData) (va : List V) (Os : List Own), va.length = as.length → ie (back (as.map IT.d ++ IT.o O :: bs.map IT.d) (O' :: Os)) (va ++ w :: vb) = va.map (fun v => (IT.un, some v)) ++ (IT.o O', some w) :: ie (back (bs.map IT.d) Os) vb := by
      intro as
      induction as with
      | nil => intro va Os h; cases va with
        | nil => rfl
        | cons => simp at h
      | cons a as ih => intro va Os h; cases va with
        | nil => simp at h
        | cons v va =>
          show (IT.un, some v) :: ie (back (as.map IT.d ++ IT.o O :: bs.map IT.d) (O' :: Os)) (va ++ w :: vb) = _
          rw [ih va Os (by simpa using h)]
          rfl
    rw [q3 as va r e2] at ok2
    refine q v ρ' H2 p trivial ?_
    have fin : OK X.K ((IT.o O', some w) :: (((IT.d zd, some v) :: (its (as.map .d) va ++ (IT.un, some w) :: its (bs.map .d) vb ++ T)) ++ (ES s1.e σ ++ (RS s1.R ρ').set o (IT.un, some w)))) H2 → Sat X.K ⟨s1.e, s1.R.set o O'⟩ σ ρ' ((IT.d zd, some v) :: (its (as.map .d) va ++ (IT.un, some w) :: its (bs.map .d) vb ++ T)) H2 := fun h =>
      ZE.frz.back2 (T2 := (IT.d zd, some v) :: (its (as.map .d) va ++ (IT.un, some w) :: its (bs.map .d) vb ++ T)) g' ho hv h
    have fin2 : OK X.K ((IT.o O', some w) :: (((IT.d zd, some v) :: T) ++ (ES s1.e σ ++ (RS s1.R ρ').set o (IT.un, some w)))) H2 → Sat X.K ⟨s1.e, s1.R.set o O'⟩ σ ρ' ((IT.d zd, some v) :: T) H2 := fun h =>
      ZE.frz.back2 (T2 := (IT.d zd, some v) :: T) g' ho hv h
    refine fin2 ?_
    have k : OK X.K ((va.map (fun v => (IT.un, some v)) ++ ie (back (bs.map IT.d) r) vb) ++ ((IT.o O', some w) :: (((IT.d zd, some v) :: T) ++ (ES s1.e σ ++ (RS s1.R ρ').set o (IT.un, some w))))) H2 := by
      refine ok2.perm ?_
      show ([(IT.d zd, some v)] ++ (va.map (fun v => (IT.un, some v)) ++ ([(IT.o O', some w)] ++ ie (back (bs.map IT.d) r) vb) ++ (T ++ (ES s1.e σ ++ (RS s1.R ρ').set o (IT.un, some w))))).Perm ((va.map (fun v => (IT.un, some v)) ++ ie (back (bs.map IT.d) r) vb) ++ ([(IT.o O', some w)] ++ ([(IT.d zd, some v)] ++ T ++ (ES s1.e σ ++ (RS s1.R ρ').set o (IT.un, some w)))))
      simp only [List.append_assoc]
      refine (cas _ _ _).trans ?_
      refine List.Perm.append_left _ ?_
      refine (((cas _ (ie (back (bs.map IT.d) r) vb) _).append_left _).trans (cas _ _ _)).trans ?_
      refine List.Perm.append_left _ ?_
      exact cas _ _ _
    exact k.right
end
end Z

namespace Z
open PySem L2 PyProof.Rows

/-! ### promises by a type of arguments -/
section
variable {A : Type} (args : A → List IT) (ask : A → Prop) (res : A → IT) (outs : A → List Own)
def preOf : Pre := fun ds => ∃ x, ask x ∧ ds = args x
def relOf : Rel := fun ds z Os => ∀ x, ask x → ds = args x → z = res x ∧ Os = outs x
end
/-- what a return is to be -/
def retS (b : Nat) (z0 : IT) (O0 : List Own) (r : SD) (t : S) : Prop := match r with
  | .d x => z0 = .d x ∧ t.R.take b = O0
  | .r j => b ≤ j ∧ ((∃ P, t.R[j]? = some P ∧ z0 = .o P) ∨ ∃ es, t.R[j]? = some (OL es) ∧ z0 = .d (.list es)) ∧ t.R.take b = O0
  | .un => False
def poS (b : Nat) (z0 : IT) (O0 : List Own) : Po := { b := b, nx := fun t => z0 = .d .none ∧ t.R.take b = O0, rt := retS b z0 O0 }
theorem PSs.wk {X : Cx} {sts : List Stmt} {s : S} {P Q : Po} (h : ZSs X sts s P) (hb : Q.b = P.b) (h1 : ∀ t, P.nx t → Q.nx t) (h2 : ∀ r t, P.rt r t → Q.rt r t) (h3 : ∀ t, P.bk t → Q.bk t) (h4 : ∀ t, P.ct t → Q.ct t) : ZSs X sts s Q :=
  PSs.imp h fun D σ H ⟨t, T, ρ, e1, b, g, q⟩ => ⟨t, T, ρ, e1, by rw [← hb]; exact b, g, by
    rw [hb] at q
    exact ⟨fun s' σ' ρ' H' a => q.nx s' σ' ρ' H' (h1 _ a), fun r s' σ' ρ' H' v a => q.rt r s' σ' ρ' H' v (h2 _ _ a), fun s' σ' ρ' H' a => q.bk s' σ' ρ' H' (h3 _ a), fun s' σ' ρ' H' a => q.ct s' σ' ρ' H' (h4 _ a)⟩⟩
section
variable {P : Program} {w : World} {K : PySem.W.Frag} {mg : Str → Option Value} {base : Heap} {x : Str} {st : Stmt} {ps N : List Str} {k : Nat}
variable {A : Type} {args : A → List IT} {ask : A → Prop} {res : A → IT} {outs : A → List Own}
theorem zfunS (D : Dfn K mg x st ps) (S : FnScope N ps (defScope st)) (hlen : ∀ x, (args x).length = ps.length) (inj : ∀ x y, ask x → ask y → args x = args y → res x = res y ∧ outs x = outs y)
    (body : ∀ (f : Addr) (cdv : Value) (Ar : Around) (outer : List Env) (s : Shared) (H : Hp) (E : XK) (y : A), ask y → Room k (Ar.deeper (envOfC x (defScope st) s.heap.objs.size f cdv)) →
      ZSs (cxOf CX0 P w K mg base N x (defScope st) f cdv Ar outer s H E).nox (defBody st) (inSt (args y) (N.length - ps.length)) (poS (objs (args y)).length (res y) (outs y))) : Cal P w K mg base (k + 1) x (preOf args ask) (relOf args ask res outs) := by
  refine zfun D S (fun ds ⟨y, _, e⟩ => by rw [e]; exact hlen y) fun f cdv Ar outer s H E ds hp hr => ?_
  obtain ⟨y, hy, e⟩ := hp
  subst e
  refine PSs.wk (body f cdv Ar outer s H E y hy hr) rfl (fun t ⟨h1, h2⟩ => ?_) (fun r t h => ?_) (fun _ z => z) (fun _ z => z)
  · intro z hz e
    obtain ⟨i1, i2⟩ := inj y z hy hz e
    exact ⟨by rw [← i1, h1], by rw [← i2]; exact h2⟩
  · cases r with
    | un => exact h
    | d v =>
      obtain ⟨h1, h2⟩ := h
      intro z hz e
      obtain ⟨i1, i2⟩ := inj y z hy hz e
      exact ⟨by rw [← i1, h1], by rw [← i2]; exact h2⟩
    | r j =>
      obtain ⟨hb, h, h2⟩ := h
      refine ⟨hb, ?_⟩
      rcases h with ⟨O, hO, h1⟩ | ⟨es, hO, h1⟩
      · refine .inl ⟨O, hO, fun z hz e => ?_⟩
        obtain ⟨i1, i2⟩ := inj y z hy hz e
        exact ⟨by rw [← i1, h1], by rw [← i2]; exact h2⟩
      · refine .inr ⟨es, hO, fun z hz e => ?_⟩
        obtain ⟨i1, i2⟩ := inj y z hy hz e
        exact ⟨by rw [← i1, h1], by rw [← i2]; exact h2⟩
end
def dsOf : List IT → List PyData
  | .d x :: r => x :: dsOf r
  | _ => []
def aftO : List IT → List IT
  | .o _ :: r => r
  | _ :: r => aftO r
  | [] => []
section
variable {X : Cx} {e : Expr} {es : List Expr} {s s1 s2 : S} {rs : List SD} {pos p : Pos} {x : Str} {k j : Nat} {zd : PyData} {O O' : Own}
variable {A : Type} {args : A → List IT} {ask : A → Prop} {res : A → IT} {outs : A → List Own}
theorem ze_callS (y : A) (c : Cal X.prog X.w X.K X.mg X.base k x (preOf args ask) (relOf args ask res outs)) (ha : ZA X (e :: es) s rs s1) (hy : ask y) (hz : res y = .d zd) (hr : Room j X.A) (hk : k ≤ j := by omega)
    (h1 : args y = (dsOf (args y)).map .d := by rfl) (h2 : rs = (dsOf (args y)).map .d := by rfl) (h : Cl X x e es pos := by exact ⟨rfl, rfl, rfl⟩) (hdb : (x == ("__debug__" : Str)) = false := by decide) : ZE X (.Call (.Name x p) (e :: es) [] pos) s (.d zd) s1 := by
  subst h2
  exact ze_call (ds := dsOf (args y)) c ha ⟨y, hy, h1.symm⟩ (fun z Os hq => by rw [(hq y hy h1.symm).1, hz]) hr hk h hdb
theorem ze_callS1 (y : A) {o : Nat} (c : Cal X.prog X.w X.K X.mg X.base k x (preOf args ask) (relOf args ask res outs)) (ha : ZA X (e :: es) s rs s1) (hy : ask y) (ho : s1.R[o]? = some O) (hz : res y = .d zd) (hO : outs y = [O']) (hr : Room j X.A) (hk : k ≤ j := by omega)
    (h1 : args y = (dsOf (args y)).map .d ++ .o O :: (dsOf (aftO (args y))).map .d := by rfl) (h2 : rs = (dsOf (args y)).map .d ++ .r o :: (dsOf (aftO (args y))).map .d := by rfl) (h : Cl X x e es pos := by exact ⟨rfl, rfl, rfl⟩) (hdb : (x == ("__debug__" : Str)) = false := by decide) :
    ZE X (.Call (.Name x p) (e :: es) [] pos) s (.d zd) ⟨s1.e, s1.R.set o O'⟩ := by
  subst h2
  exact ze_call1 (as := dsOf (args y)) (bs := dsOf (aftO (args y))) c ha ho ⟨y, hy, h1.symm⟩ (fun z Os hq => by
    obtain ⟨q1, q2⟩ := hq y hy h1.symm
    exact ⟨by rw [q1, hz], [], by rw [q2, hO]⟩) hr hk h hdb
end
end Z

namespace Z
open PySem L2 PyProof.Rows

/-! ### keys of dicts: tuples of ints, texts and such tuples -/
noncomputable instance decPD : DecidableEq PyData := fun a b => Classical.propDecidable (a = b)
mutual
def isAt (h : Heap) : PyData → Value → Prop
  | .int i, v => ∃ t, v = .int i t
  | .str x, v => ∃ t, v = .str x t
  | .tuple ds, v => ∃ a, v = .ref a ∧ ∃ o its n, h.get? a = some o ∧ o.cls = .type "tuple" ∧ o.data = .seq its n ∧ isAts h ds its.toList
  | _, _ => False
def isAts (h : Heap) : List PyData → List Value → Prop
  | [], [] => True
  | d :: ds, v :: vs => isAt h d v ∧ isAts h ds vs
  | _, _ => False
end
mutual
def dep : PyData → Nat
  | .tuple ds => deps ds + 1
  | _ => 0
def deps : List PyData → Nat
  | [] => 0
  | d :: ds => max (dep d) (deps ds)
end
mutual
def hashD (w : World) : PyData → Int
  | .int i => hashInt i
  | .str x => hashStr w x
  | .tuple ds => reduceHash (Builtin.Tuple.tupleHashOf (hashDs w ds))
  | _ => 0
def hashDs (w : World) : List PyData → List Int
  | [] => []
  | d :: ds => hashD w d :: hashDs w ds
end
mutual
def drw : PyData → Nat
  | .tuple ds => drws ds + 1
  | _ => 1
def drws : List PyData → Nat
  | [] => 0
  | d :: ds => drw d + drws ds
end
mutual
theorem isAt_inj {h : Heap} : ∀ {x y : PyData} {v : Value}, isAt h x v → isAt h y v → x = y
  | .int i, y, v, hx, hy => by
    obtain ⟨t, rfl⟩ := hx
    cases y with
    | int j => obtain ⟨t', e⟩ := hy; injection e with e1 _; rw [e1]
    | str => obtain ⟨t', e⟩ := hy; cases e
    | tuple => obtain ⟨a, e, _⟩ := hy; cases e
    | _ => exact hy.elim
  | .str i, y, v, hx, hy => by
    obtain ⟨t, rfl⟩ := hx
    cases y with
    | str j => obtain ⟨t', e⟩ := hy; injection e with e1 _; rw [e1]
    | int => obtain ⟨t', e⟩ := hy; cases e
    | tuple => obtain ⟨a, e, _⟩ := hy; cases e
    | _ => exact hy.elim
  | .tuple ds, y, v, hx, hy => by
    obtain ⟨a, rfl, o, its, n, h1, h2, h3, h4⟩ := hx
    cases y with
    | int j => obtain ⟨t', e⟩ := hy; cases e
    | str => obtain ⟨t', e⟩ := hy; cases e
    | tuple es =>
      obtain ⟨a', e, o', its', n', g1, g2, g3, g4⟩ := hy
      cases e
      rw [h1] at g1
      cases g1
      rw [h3] at g3
      cases g3
      rw [isAts_inj h4 g4]
    | _ => exact hy.elim
  | .none, _, _, hx, _ => hx.elim
  | .bool _, _, _, hx, _ => hx.elim
  | .list _, _, _, hx, _ => hx.elim
  | .dict _, _, _, hx, _ => hx.elim
theorem isAts_inj {h : Heap} : ∀ {x y : List PyData} {v : List Value}, isAts h x v → isAts h y v → x = y
  | [], [], [], _, _ => rfl
  | [], _ :: _, [], _, hy => hy.elim
  | _ :: _, _, [], hx, _ => hx.elim
  | [], _, _ :: _, hx, _ => hx.elim
  | _ :: _, [], _ :: _, _, hy => hy.elim
  | d :: ds, e :: es, v :: vs, hx, hy => by rw [isAt_inj hx.1 hy.1, isAts_inj hx.2 hy.2]
end
mutual
theorem isAt_keep {h h' : Heap} (k : ∀ a o its n, h.get? a = some o → o.data = .seq its n → h'.get? a = some o) : ∀ {x : PyData} {v : Value}, isAt h x v → isAt h' x v
  | .int i, v, hx => hx
  | .str i, v, hx => hx
  | .tuple ds, v, hx => by
    obtain ⟨a, e, o, its, n, h1, h2, h3, h4⟩ := hx
    exact ⟨a, e, o, its, n, k a o its n h1 h3, h2, h3, isAts_keep k h4⟩
  | .none, _, hx => hx.elim
  | .bool _, _, hx => hx.elim
  | .list _, _, hx => hx.elim
  | .dict _, _, hx => hx.elim
theorem isAts_keep {h h' : Heap} (k : ∀ a o its n, h.get? a = some o → o.data = .seq its n → h'.get? a = some o) : ∀ {x : List PyData} {v : List Value}, isAts h x v → isAts h' x v
  | [], [], _ => trivial
  | [], _ :: _, hx => hx.elim
  | _ :: _, [], hx => hx.elim
  | d :: ds, v :: vs, hx => ⟨isAt_keep k hx.1, isAts_keep k hx.2⟩
end
theorem isAts_len {h : Heap} : ∀ {x : List PyData} {v : List Value}, isAts h x v → x.length = v.length
  | [], [], _ => rfl
  | [], _ :: _, hx => hx.elim
  | _ :: _, [], hx => hx.elim
  | d :: ds, v :: vs, hx => by simp [isAts_len hx.2]
section
variable {prog : Program} {w : World}
theorem hash_tup (A : Around) (E : Value → Shared → Prop) (ds : List PyData) (ih : ∀ d ∈ ds, ∀ (s : Shared) (v : Value) (Q : Int → Shared → Prop), isAt s.heap d v → Q (hashD w d) { s with toks := s.toks + drw d } → wpAny (model prog w) A.in1 (pyHash v) Q E s)
    (s : Shared) (v : Value) (Q : Int → Shared → Prop) (hu : A.units < cLine) (hx : isAt s.heap (.tuple ds) v) (h : Q (hashD w (.tuple ds)) { s with toks := s.toks + drw (.tuple ds) }) : wpAny (model prog w) A (pyHash v) Q E s := by
  obtain ⟨a, rfl, o, its, n, ho, hc, hd, hi⟩ := hx
  have hT : s.TypeIs (.ref a) "tuple" := ⟨o, ho, hc⟩
  unfold pyHash pyHashByItsType
  refine wpAny_bind (wpAny_cRoomFor_or (.inr hu) ?_)
  refine wpAny_bind (wpAny_specialOf hT F.slot_tuple_hash.lookup ?_)
  have nn : (some (Value.builtin "tuple.__hash__") == some Value.none) = false := beq_builtin_none ..
  dsimp only
  rw [if_neg (by rw [nn]; exact Bool.false_ne_true)]
  refine wpAny_bind (wpAny_specialOf hT F.slot_tuple_hash.lookup ?_)
  refine wpAny_bind (wpAny_callSpecialIfBoundUnlessNone?_slot hT F.slot_tuple_hash (wpAny_call_entry F.slot_tuple_hash hT F.entry_tuple_hash ?_ (F.args_tuple_hash_1 _)))
  show wpAny _ _ (Builtin.Tuple.tupleItemsOf (.ref a) >>= _) _ _ s
  refine wpAny_bind (wpAny_tupleItemsOf ho hd ?_)
  refine wpAny_bind ?_
  rw [← Array.forIn_toList]
  refine wpAny_forIn_list _ (fun rest (b : Array Int) s' => ∃ xs ys, ds = xs ++ ys ∧ isAts s.heap ys rest ∧ b.toList = hashDs w xs ∧ s' = { s with toks := s.toks + drws xs }) _ ?_ ?_ _ _ ⟨[], ds, rfl, hi, rfl, rfl⟩
  · rintro x rest b s' ⟨xs, ys, e1, e2, e3, rfl⟩
    cases ys with
    | nil => exact e2.elim
    | cons y ys =>
      refine wpAny_bind (ih y (by rw [e1]; simp) _ x _ e2.1 ?_)
      refine wpAny_pure ⟨xs ++ [y], ys, by rw [e1]; simp, e2.2, ?_, ?_⟩
      · rw [Array.toList_push, e3]
        clear e1 e3
        induction xs with
        | nil => rfl
        | cons z zs ihz =>
          show hashD w z :: (hashDs w zs ++ [hashD w y]) = hashD w z :: hashDs w (zs ++ [y])
          rw [ihz]
      · have dl : ∀ l : List PyData, drws (l ++ [y]) = drws l + drw y := fun l => by
          induction l with
          | nil => show drw y + 0 = 0 + drw y; omega
          | cons z zs ihz => show drw z + drws (zs ++ [y]) = drw z + drws zs + drw y; rw [ihz]; omega
        rw [dl, Nat.add_assoc]
  · rintro b s' ⟨xs, ys, e1, e2, e3, rfl⟩
    cases ys with
    | cons y ys => exact e2.elim
    | nil =>
      rw [List.append_nil] at e1
      subst e1
      show wpAny _ _ (retInt (Builtin.Tuple.tupleHashOf b.toList)) _ _ _
      rw [e3]
      refine wpAny_ret_mkInt ?_
      have hh : Q (reduceHash (Builtin.Tuple.tupleHashOf (hashDs w ds))) { s with toks := s.toks + (drws ds + 1) } := h
      unfold reduceHash at hh
      show wpAny _ _ (pyHashByItsType.reduced (Builtin.Tuple.tupleHashOf (hashDs w ds))) Q E _
      unfold pyHashByItsType.reduced
      by_cases hr : (decide (-(2 : Int) ^ 63 ≤ Builtin.Tuple.tupleHashOf (hashDs w ds)) && decide (Builtin.Tuple.tupleHashOf (hashDs w ds) < 2 ^ 63)) = true
      · rw [if_pos hr] at hh ⊢
        exact wpAny_pure (by rw [Nat.add_assoc]; exact hh)
      · rw [if_neg hr] at hh ⊢
        exact wpAny_bind (wpAny_rule (wpAny_pure (by rw [Nat.add_assoc]; exact hh)))
theorem dep_mem : ∀ {ds : List PyData} {d : PyData}, d ∈ ds → dep d ≤ deps ds
  | [], d, h => by simp at h
  | e :: es, d, h => by
    have h1 : deps (e :: es) = max (dep e) (deps es) := rfl
    rcases List.mem_cons.mp h with z | z
    · subst z; omega
    · have := dep_mem z; omega
def HP (prog : Program) (w : World) (E : Value → Shared → Prop) (d : PyData) : Prop := ∀ (A : Around) (s : Shared) (v : Value) (Q : Int → Shared → Prop), A.units + dep d < cLine → isAt s.heap d v → Q (hashD w d) { s with toks := s.toks + drw d } → wpAny (model prog w) A (pyHash v) Q E s
mutual
theorem hash_at (E : Value → Shared → Prop) : ∀ (d : PyData), HP prog w E d
  | .int i => fun A s v Q hu hx h => by
    obtain ⟨t, rfl⟩ := hx
    exact wpAny_pyHash_int h
  | .str i => fun A s v Q hu hx h => by
    obtain ⟨t, rfl⟩ := hx
    exact wpAny_pyHash_str h
  | .tuple ds => fun A s v Q hu hx h => by
    have e : dep (.tuple ds) = deps ds + 1 := rfl
    have l := hash_all E ds
    exact hash_tup A E ds (fun d hd s v Q hx h => l d hd A.in1 s v Q (by have := dep_mem hd; show A.units + 1 + dep d < cLine; omega) hx h) s v Q (by omega) hx h
  | .none => fun _ _ _ _ _ hx _ => hx.elim
  | .bool _ => fun _ _ _ _ _ hx _ => hx.elim
  | .list _ => fun _ _ _ _ _ hx _ => hx.elim
  | .dict _ => fun _ _ _ _ _ hx _ => hx.elim
theorem hash_all (E : Value → Shared → Prop) : ∀ (ds : List PyData), ∀ d ∈ ds, HP prog w E d
  | [] => fun d hd => by simp at hd
  | e :: es => fun d hd => by
    have h1 := hash_at E e
    have h2 := hash_all E es
    rcases List.mem_cons.mp hd with z | z
    · rw [z]; exact h1
    · exact h2 d z
end
/-! equality -/
theorem eq_tup (A : Around) (E : Value → Shared → Prop) (ds es : List PyData) (ih : ∀ d ∈ ds, ∀ (e : PyData) (s : Shared) (u v : Value) (Q : Bool → Shared → Prop) (E : Value → Shared → Prop), isAt s.heap d u → isAt s.heap e v → Q (decide (d = e)) s → wpAny (model prog w) A.in1 (eqBool u v) Q E s)
    (s : Shared) (u v : Value) (Q : Bool → Shared → Prop) (hu : A.units < cLine) (hx : isAt s.heap (.tuple ds) u) (hy : isAt s.heap (.tuple es) v) (h : Q (decide (PyData.tuple ds = PyData.tuple es)) s) : wpAny (model prog w) A (eqBool u v) Q E s := by
  have hx0 := hx
  have hy0 := hy
  obtain ⟨a, rfl, oa, xs, na, hoa, hca, hda, hia⟩ := hx
  obtain ⟨b, rfl, ob, ys, nb, hob, hcb, hdb, hib⟩ := hy
  have hTa : s.TypeIs (.ref a) "tuple" := ⟨oa, hoa, hca⟩
  have hTb : s.TypeIs (.ref b) "tuple" := ⟨ob, hob, hcb⟩
  unfold eqBool
  refine wpAny_holding ?_
  by_cases hab : (Value.ref a == Value.ref b) = true
  · rw [if_pos hab]
    have e : a = b := by have := eq_of_beq hab; injection this
    subst e
    have e2 := isAt_inj hx0 hy0
    rw [decide_eq_true e2] at h
    exact wpAny_bind (wpAny_rule (wpAny_pure h))
  · rw [if_neg hab]
    refine wpAny_bind (wpAny_richCompare_same_room (op := .Eq) hTa hTb F.slot_tuple_eq (wpAny_call_entry F.slot_tuple_eq hTa F.entry_tuple_eq ?_ (F.args_tuple_eq_2 _ _)) hu)
    show wpAny _ _ (isInstance (.ref b) (.type "tuple") >>= _) _ _ s
    refine wpAny_bind (wpAny_isInstance hTb isSubtype_tuple_tuple ?_)
    simp only [Bool.not_true, Bool.false_eq_true, if_false]
    refine wpAny_bind (wpAny_tupleItemsOf hoa hda ?_)
    refine wpAny_bind (wpAny_tupleItemsOf hob hdb ?_)
    refine wpAny_bind ?_
    refine wpAny_forIn_list _ (fun rest r s' => r.1 = none ∧ s' = s ∧ ∃ ds1 ds2 es2 xs2 ys2, ds = ds1 ++ ds2 ∧ rest = List.zip xs2 ys2 ∧ isAts s.heap ds2 xs2 ∧ isAts s.heap es2 ys2 ∧ (ds = es ↔ ds2 = es2) ∧ (xs2.length == ys2.length) = (xs.size == ys.size)) _ ?_ ?_ _ _
      ⟨rfl, rfl, [], ds, es, xs.toList, ys.toList, rfl, rfl, hia, hib, Iff.rfl, by simp⟩
    · rintro ⟨p, q⟩ rest r s' ⟨hr, rfl, ds1, ds2, es2, xs2, ys2, e0, hz, hx', hy', hiff, hlen⟩
      match ds2, xs2, es2, ys2, hx', hy', hz with
      | d :: ds2, x :: xs2, e :: es2, y :: ys2, hx', hy', hz =>
        simp only [List.zip_cons_cons, List.cons.injEq, Prod.mk.injEq] at hz
        obtain ⟨⟨rfl, rfl⟩, rfl⟩ := hz
        refine wpAny_bind (ih d (by rw [e0]; simp) e _ p q _ _ hx'.1 hy'.1 ?_)
        by_cases hde : d = e
        · subst hde
          rw [decide_eq_true rfl]
          simp only [Bool.not_true, Bool.false_eq_true, if_false]
          exact wpAny_pure ⟨rfl, rfl, ds1 ++ [d], ds2, es2, xs2, ys2, by rw [e0]; simp, rfl, hx'.2, hy'.2, by rw [hiff]; simp, by simpa using hlen⟩
        · rw [decide_eq_false hde]
          simp only [Bool.not_false, if_true]
          have nf : ¬ PyData.tuple ds = PyData.tuple es := fun z => hde (by
            injection z with z
            have := hiff.mp z
            injection this)
          rw [decide_eq_false nf] at h
          exact wpAny_bind (wpAny_pure (wpAny_pure (wpAny_pure ⟨_, rfl, (fun z => nomatch z), wpAny_truthy_bool h⟩)))
      | [], [], _, _, _, _, hz => simp at hz
      | _ :: _, _ :: _, [], [], _, _, hz => simp at hz
      | [], _ :: _, _, _, hx', _, _ => exact hx'.elim
      | _ :: _, [], _, _, hx', _, _ => exact hx'.elim
      | _ :: _, _ :: _, [], _ :: _, _, hy', _ => exact hy'.elim
      | _ :: _, _ :: _, _ :: _, [], _, hy', _ => exact hy'.elim
    · rintro ⟨r1, r2⟩ s' ⟨hr, rfl, ds1, ds2, es2, xs2, ys2, e0, hz, hx', hy', hiff, hlen⟩
      simp only at hr
      subst hr
      refine wpAny_pure ?_
      have fin : (xs.size == ys.size) = decide (PyData.tuple ds = PyData.tuple es) := by
        rw [← hlen]
        have l1 := isAts_len hx'
        have l2 := isAts_len hy'
        have z : xs2 = [] ∨ ys2 = [] := by
          cases xs2 with
          | nil => exact .inl rfl
          | cons x xs2 => cases ys2 with
            | nil => exact .inr rfl
            | cons y ys2 => simp at hz
        by_cases q : ds2 = es2
        · have e1 : PyData.tuple ds = PyData.tuple es := by rw [hiff.mpr q]
          rw [decide_eq_true e1, ← l1, ← l2, q]
          simp
        · have e1 : ¬ PyData.tuple ds = PyData.tuple es := fun w => q (hiff.mp (by injection w))
          rw [decide_eq_false e1, beq_eq_false_iff_ne, ← l1, ← l2]
          intro w
          apply q
          rcases z with z | z
          · subst z
            have a1 : ds2 = [] := List.eq_nil_of_length_eq_zero l1
            subst a1
            exact (List.eq_nil_of_length_eq_zero w.symm).symm
          · subst z
            have a1 : es2 = [] := List.eq_nil_of_length_eq_zero l2
            subst a1
            exact List.eq_nil_of_length_eq_zero w
      show ∃ _, _
      refine ⟨_, rfl, (fun z => nomatch z), ?_⟩
      refine wpAny_truthy_bool ?_
      rw [fin]
      exact h
def EP1 (prog : Program) (w : World) (d : PyData) : Prop := ∀ (A : Around) (s : Shared) (e : PyData) (u v : Value) (Q : Bool → Shared → Prop) (E : Value → Shared → Prop), A.units + dep d < cLine → isAt s.heap d u → isAt s.heap e v → Q (decide (d = e)) s → wpAny (model prog w) A (eqBool u v) Q E s
theorem at_tup {h : Heap} {ds : List PyData} {v : Value} (hx : isAt h (.tuple ds) v) : ∃ a its, v = .ref a ∧ h.IsTuple a its := by
  obtain ⟨a, e, o, its, n, h1, h2, h3, _⟩ := hx
  exact ⟨a, its, e, o, h1, h2, n, h3⟩
mutual
theorem eq_at : ∀ (d : PyData), EP1 prog w d
  | .int i => fun A s e u v Q E hu hx hy h => by
    obtain ⟨t, rfl⟩ := hx
    cases e with
    | int j =>
      obtain ⟨t', rfl⟩ := hy
      refine SeqAt.EqAt.int_int i t j t' prog w E Q ?_
      have e : decide (PyData.int i = PyData.int j) = (i == j) := by rw [Bool.eq_iff_iff]; simp
      rw [← e]
      exact h
    | str x =>
      obtain ⟨t', rfl⟩ := hy
      exact SeqAt.EqAt.int_str i t x t' prog w E Q (by rw [decide_eq_false (fun z => by cases z)] at h; exact h)
    | tuple es =>
      obtain ⟨a, its, rfl, hT⟩ := at_tup hy
      exact SeqAt.EqAt.int_tuple i t hT (by omega) prog w E Q (by rw [decide_eq_false (fun z => by cases z)] at h; exact h)
    | _ => exact hy.elim
  | .str x => fun A s e u v Q E hu hx hy h => by
    obtain ⟨t, rfl⟩ := hx
    cases e with
    | int j =>
      obtain ⟨t', rfl⟩ := hy
      exact SeqAt.EqAt.str_int x t j t' prog w E Q (by rw [decide_eq_false (fun z => by cases z)] at h; exact h)
    | str y =>
      obtain ⟨t', rfl⟩ := hy
      refine SeqAt.EqAt.str_str x t y t' prog w E Q ?_
      have e : decide (PyData.str x = PyData.str y) = (x == y) := by rw [Bool.eq_iff_iff]; simp
      rw [← e]
      exact h
    | tuple es =>
      obtain ⟨a, its, rfl, hT⟩ := at_tup hy
      exact SeqAt.EqAt.str_tuple x t hT (by omega) prog w E Q (by rw [decide_eq_false (fun z => by cases z)] at h; exact h)
    | _ => exact hy.elim
  | .tuple ds => fun A s e u v Q E hu hx hy h => by
    have e1 : dep (.tuple ds) = deps ds + 1 := rfl
    have l := eq_all ds
    cases e with
    | int j =>
      obtain ⟨t', rfl⟩ := hy
      obtain ⟨a, its, rfl, hT⟩ := at_tup hx
      exact SeqAt.EqAt.tuple_int j t' hT (by omega) prog w E Q (by rw [decide_eq_false (fun z => by cases z)] at h; exact h)
    | str y =>
      obtain ⟨t', rfl⟩ := hy
      obtain ⟨a, its, rfl, hT⟩ := at_tup hx
      exact SeqAt.EqAt.tuple_str y t' hT (by omega) prog w E Q (by rw [decide_eq_false (fun z => by cases z)] at h; exact h)
    | tuple es => exact eq_tup A E ds es (fun d hd e s u v Q E hx hy h => l d hd A.in1 s e u v Q E (by have := dep_mem hd; show A.units + 1 + dep d < cLine; omega) hx hy h) s u v Q (by omega) hx hy h
    | _ => exact hy.elim
  | .none => fun _ _ _ _ _ _ _ _ hx _ _ => hx.elim
  | .bool _ => fun _ _ _ _ _ _ _ _ hx _ _ => hx.elim
  | .list _ => fun _ _ _ _ _ _ _ _ hx _ _ => hx.elim
  | .dict _ => fun _ _ _ _ _ _ _ _ hx _ _ => hx.elim
theorem eq_all : ∀ (ds : List PyData), ∀ d ∈ ds, EP1 prog w d
  | [] => fun d hd => by simp at hd
  | e :: es => fun d hd => by
    have h1 := eq_at e
    have h2 := eq_all es
    rcases List.mem_cons.mp hd with z | z
    · rw [z]; exact h1
    · exact h2 d z
end
/-! looks that change nothing -/
theorem quiet_tup {A : Around} {E : Value → Shared → Prop} {s : Shared} (n : Nat) (ds : List PyData) (ih : ∀ d ∈ ds, ∀ (v : Value) (Q : Bool → Shared → Prop), isAt s.heap d v → Q true s → wpAny (model prog w) A (eqIsQuiet n v) Q E s)
    (v : Value) (Q : Bool → Shared → Prop) (hx : isAt s.heap (.tuple ds) v) (h : Q true s) : wpAny (model prog w) A (eqIsQuiet (n + 1) v) Q E s := by
  obtain ⟨a, rfl, o, its, m, ho, hc, hd, hi⟩ := hx
  have hT : s.TypeIs (.ref a) "tuple" := ⟨o, ho, hc⟩
  unfold eqIsQuiet
  refine wpAny_bind (wpAny_specialOf hT F.slot_tuple_eq.lookup ?_)
  show wpAny _ _ (isInstance (.ref a) (.type "tuple") >>= _) _ _ s
  refine wpAny_bind (wpAny_isInstance hT isSubtype_tuple_tuple ?_)
  simp only [Bool.not_true, Bool.false_eq_true, if_false]
  refine wpAny_bind (wpAny_seqItems ho hd ?_)
  refine wpAny_bind ?_
  show wpAny _ _ (forIn its _ _) _ _ s
  rw [← Array.forIn_toList]
  refine wpAny_forIn_list _ (fun rest r s' => r.1 = none ∧ s' = s ∧ ∃ d1 d2, ds = d1 ++ d2 ∧ isAts s.heap d2 rest) _ ?_ ?_ _ _ ⟨rfl, rfl, [], ds, rfl, hi⟩
  · rintro v rest r s' ⟨hr, rfl, d1, d2, e1, e2⟩
    cases d2 with
    | nil => exact e2.elim
    | cons d d2 =>
      refine wpAny_bind (ih d (by rw [e1]; simp) v _ e2.1 ?_)
      simp only [Bool.not_true, Bool.false_eq_true, if_false]
      exact wpAny_pure ⟨rfl, rfl, d1 ++ [d], d2, by rw [e1]; simp, e2.2⟩
  · rintro ⟨r1, r2⟩ s' ⟨hr, rfl, _⟩
    simp only at hr
    subst hr
    exact wpAny_pure h
def QP (prog : Program) (w : World) (d : PyData) : Prop := ∀ (A : Around) (E : Value → Shared → Prop) (s : Shared) (n : Nat) (v : Value) (Q : Bool → Shared → Prop), dep d ≤ n → isAt s.heap d v → Q true s → wpAny (model prog w) A (eqIsQuiet n v) Q E s
mutual
theorem quiet_at : ∀ (d : PyData), QP prog w d
  | .int i => fun A E s n v Q hn hx h => by
    obtain ⟨t, rfl⟩ := hx
    rw [eqIsQuiet_byValue n rfl]
    exact wpAny_pure h
  | .str i => fun A E s n v Q hn hx h => by
    obtain ⟨t, rfl⟩ := hx
    rw [eqIsQuiet_byValue n rfl]
    exact wpAny_pure h
  | .tuple ds => fun A E s n v Q hn hx h => by
    have e1 : dep (.tuple ds) = deps ds + 1 := rfl
    have l := quiet_all ds
    cases n with
    | zero => omega
    | succ n => exact quiet_tup n ds (fun d hd v Q hx h => l d hd A E s n v Q (by have := dep_mem hd; omega) hx h) v Q hx h
  | .none => fun _ _ _ _ _ _ _ hx _ => hx.elim
  | .bool _ => fun _ _ _ _ _ _ _ hx _ => hx.elim
  | .list _ => fun _ _ _ _ _ _ _ hx _ => hx.elim
  | .dict _ => fun _ _ _ _ _ _ _ hx _ => hx.elim
theorem quiet_all : ∀ (ds : List PyData), ∀ d ∈ ds, QP prog w d
  | [] => fun d hd => by simp at hd
  | e :: es => fun d hd => by
    have h1 := quiet_at e
    have h2 := quiet_all es
    rcases List.mem_cons.mp hd with z | z
    · rw [z]; exact h1
    · exact h2 d z
end
end
/-- tuples as keys -/
noncomputable def dkind (prog : Program) (w : World) : HeapKind prog w PyData where
  is := fun h d a => dep d ≤ 8 ∧ isAt h d (.ref a)
  hash := hashD w
  draws := drw
  room := fun A => A.units + 10 < cLine
  inj := fun hx hy => isAt_inj hx.2 hy.2
  keeps := fun {h h' k a d o es ep} hx ho hd hs => ⟨hx.1, isAt_keep (fun b ob its n e1 e2 => by
    by_cases hb : b = d
    · subst hb
      rw [ho] at e1
      cases e1
      rw [hd] at e2
      cases e2
    · exact (hs.2 b hb).trans e1) hx.2⟩
  pyHash := fun {A E s k a Q} hu hx h => hash_at E k A s _ Q (by have := hx.1; omega) hx.2 h
  eqBool := fun {A E s x y a b Q} hu hx hy h => eq_at x A s y _ _ Q E (by have := hx.1; omega) hx.2 hy.2 h
  quiet := fun {A E s k a Q} hx h => quiet_at k A E s 8 _ Q hx.1 hx.2 h
end Z

namespace Z
open PySem L2 PyProof.Rows

/-! ### dicts whose keys are tuples -/
mutual
def kOK : PyData → Bool
  | .int _ => true
  | .str _ => true
  | .tuple ds => kOKs ds
  | _ => false
def kOKs : List PyData → Bool
  | [] => true
  | d :: ds => kOK d && kOKs ds
end
abbrev DEn := PyData × Addr × Value
def DxO (P : Program) (w : World) (a : Addr) (xs : List DEn) : HO := .ext fun h => xs.length ≤ sizeLine ∧ (a == sysModules) = false ∧
  ∃ o es ep, h.get? a = some o ∧ o.ExactDict ∧ o.data = .dict es ep ∧ es.toList = xs.map (entryOfKey (dkind P w)) ∧ (xs.map (·.1)).Nodup
/-- a key as it stands -/
def KyD (K : PySem.W.Frag) (H : Hp) (a : Addr) (d : PyData) : Prop := Dp K H (.ref a) d ∧ kOK d = true ∧ dep d ≤ 8
section
variable {X : Cx} {pins : List (Addr × Obj)} {σ : L2.St} {H : Hp} {s : Shared}
mutual
theorem dp_at (I : Inv X pins σ H s) : ∀ (d : PyData) (v : V) (u : Value), kOK d = true → Dp X.K H v d → RelV v u → isAt s.heap d u
  | .int i, _, _, _, h, r => by cases h; exact r
  | .str i, _, _, _, h, r => by cases h; exact r
  | .tuple ds, _, _, k, h, r => by
    cases h with
    | tup hs ha =>
      cases r
      obtain ⟨its, rv, ⟨o, ho, hc, n, hd⟩, _⟩ := I.tuple hs
      exact ⟨_, rfl, o, _, n, ho, hc, hd, dps_at I ds _ its k ha rv⟩
  | .none, _, _, k, _, _ => by cases k
  | .bool _, _, _, k, _, _ => by cases k
  | .list _, _, _, k, _, _ => by cases k
  | .dict _, _, _, k, _, _ => by cases k
theorem dps_at (I : Inv X pins σ H s) : ∀ (ds : List PyData) (vs : List V) (us : List Value), kOKs ds = true → DpAll X.K H vs ds → Vals vs us → isAts s.heap ds us
  | [], _, _, _, h, r => by cases h; cases r; trivial
  | d :: ds, _, _, k, h, r => by
    cases h with
    | cons h1 h2 =>
      cases r with
      | cons r1 r2 =>
        have k' : (kOK d && kOKs ds) = true := k
        rw [Bool.and_eq_true] at k'
        exact ⟨dp_at I d _ _ k'.1 h1 r1, dps_at I ds _ _ k'.2 h2 r2⟩
end
theorem dx_of {P : Program} {w : World} {h : Heap} {a : Addr} {xs : List DEn} (ok : HOk P w H h) (e : H a = some (DxO P w a xs)) : xs.length ≤ sizeLine ∧ (a == sysModules) = false ∧ ∃ o es ep, h.get? a = some o ∧ o.ExactDict ∧ o.data = .dict es ep ∧ es.toList = xs.map (entryOfKey (dkind P w)) ∧ (xs.map (·.1)).Nodup := (ok a _ e).1
theorem dx_new {P : Program} {w : World} {h : Heap} {a : Addr} {xs : List DEn} (h1 : xs.length ≤ sizeLine) (h2 : (a == sysModules) = false) (h3 : ∃ o es ep, h.get? a = some o ∧ o.ExactDict ∧ o.data = .dict es ep ∧ es.toList = xs.map (entryOfKey (dkind P w)) ∧ (xs.map (·.1)).Nodup) : ObjOk P w H h a (DxO P w a xs) :=
  ⟨⟨h1, h2, h3⟩, let ⟨o, _, _, e, _⟩ := h3; ⟨o, e⟩, fun g1 g2 ⟨p1, p2, o, es, ep, e, r⟩ k => ⟨p1, p2, o, es, ep, k o e, r⟩⟩
theorem dx_H (I : Inv X pins σ H s) {a : Addr} {xs : List DEn} (e : H a = some (DxO X.prog X.w a xs)) (k : ∀ x ∈ xs, KyD X.K H x.2.1 x.1) : xs.length ≤ sizeLine ∧ (a == sysModules) = false ∧ s.heap.DictOfH (dkind X.prog X.w) a xs := by
  obtain ⟨h1, h2, o, es, ep, h3, h4, h5, h6, h7⟩ := dx_of I.hok e
  exact ⟨h1, h2, o, es, ep, h3, h4, h5, h6, fun x hx => ⟨(k x hx).2.2, dp_at I _ _ _ (k x hx).2.1 (k x hx).1 rfl⟩, h7⟩
theorem nd_sub {α : Type} [DecidableEq α] {l1 : List α} : ∀ (_ : l1.Nodup) {l2 : List α} (_ : ∀ x ∈ l1, x ∈ l2), l1.length ≤ l2.length := by
  induction l1 with
  | nil => intro _ _ _; exact Nat.zero_le _
  | cons a l ih =>
    intro nd l2 h
    rw [List.nodup_cons] at nd
    have h1 := ih nd.2 (l2 := l2.erase a) fun x hx => (List.mem_erase_of_ne (fun (e : x = a) => nd.1 (by rw [← e]; exact hx))).mpr (h x (List.mem_cons_of_mem _ hx))
    have h2 : a ∈ l2 := h a List.mem_cons_self
    have h3 := List.length_erase_of_mem h2
    have h4 := List.length_pos_of_mem h2
    rw [List.length_cons]
    omega
/-- what stands at a key -/
noncomputable def atD (xs : List DEn) (d : PyData) : Option Value := (atKey xs d).map (·.2)
def rInX (X : Cx) (neg : Bool) : R2 := fun x y H Q => ∃ p b xs d, y = .ref p ∧ x = .ref b ∧ H p = some (DxO X.prog X.w p xs) ∧ (∀ e ∈ xs, KyD X.K H e.2.1 e.1) ∧ KyD X.K H b d ∧ Q (.bl (if neg then !(atKey xs d).isSome else (atKey xs d).isSome)) H
theorem op_inX (hu : X.A.units + 20 < cLine) : OpR X (compareOp .In) (rInX X false) := by
  intro pins s σ H x y v u Q I rx ry h
  obtain ⟨p, b, xs, d, rfl, rfl, hp, hk, hb, q⟩ := h
  cases rx
  cases ry
  obtain ⟨h1, h2, h3⟩ := dx_H I hp hk
  exact wpAny_in_heap (knd := dkind X.prog X.w) (k := d) (show X.A.units + 1 + 10 < cLine by omega) ⟨hb.2.2, dp_at I _ _ _ hb.2.1 hb.1 rfl⟩ h2 h3 ⟨.bl _, H, I.tok _, rfl, q⟩
theorem op_ninX (hu : X.A.units + 20 < cLine) : OpR X (compareOp .NotIn) (rInX X true) := by
  intro pins s σ H x y v u Q I rx ry h
  obtain ⟨p, b, xs, d, rfl, rfl, hp, hk, hb, q⟩ := h
  cases rx
  cases ry
  obtain ⟨h1, h2, h3⟩ := dx_H I hp hk
  exact wpAny_notIn_heap (knd := dkind X.prog X.w) (k := d) (show X.A.units + 1 + 10 < cLine by omega) ⟨hb.2.2, dp_at I _ _ _ hb.2.1 hb.1 rfl⟩ h2 h3 ⟨.bl _, H, I.tok _, rfl, q⟩
def rIxX (X : Cx) : R2 := fun x y H Q => ∃ p b xs d c u v, x = .ref p ∧ y = .ref b ∧ H p = some (DxO X.prog X.w p xs) ∧ (∀ e ∈ xs, KyD X.K H e.2.1 e.1) ∧ KyD X.K H b d ∧ atKey xs d = some (c, u) ∧ RelV v u ∧ Q v H
theorem ix_X (hu : X.A.units + 20 < cLine) : IxR X (rIxX X) := by
  intro value slice pins s σ H x y v u Q I rx ry h hs
  obtain ⟨p, b, xs, d, c, u', v', rfl, rfl, hp, hk, hb, ha, rv, q⟩ := h
  cases rx
  cases ry
  obtain ⟨h1, h2, h3⟩ := dx_H I hp hk
  refine tail_any h3.typeIs slot_dict_getitem.lookup ?_ hs
  exact wpAny_getItem_heap (knd := dkind X.prog X.w) (k := d) (show X.A.units + 1 + 10 < cLine by omega) ⟨hb.2.2, dp_at I _ _ _ hb.2.1 hb.1 rfl⟩ h3 ha ⟨v', H, I.tok _, rv, q⟩
def rPutX (X : Cx) : TSet := fun o i v H Q => ∃ p b xs d, o = .ref p ∧ i = .ref b ∧ H p = some (DxO X.prog X.w p xs) ∧ (∀ e ∈ xs, KyD X.K H e.2.1 e.1) ∧ KyD X.K H b d ∧ (∃ U : List PyData, U.length < sizeLine ∧ ∀ e ∈ xs, e.1 ∈ U) ∧ ∀ u, RelV v u → Q (upd H p (DxO X.prog X.w p (storedH xs d b u)))
theorem put_X (hu : X.A.units + 20 < cLine) : PSet X (rPutX X) := by
  intro pins s σ H o i v ov iv u Q I ro ri rv h
  obtain ⟨p, b, xs, d, rfl, rfl, hp, hk, hb, ⟨U, hU, hin⟩, q⟩ := h
  cases ro
  cases ri
  have hl : xs.length < sizeLine := by
    obtain ⟨_, _, _, _, _, _, _, _, _, nd⟩ := dx_of I.hok hp
    have := (nd_sub nd (l2 := U) fun x hx => by obtain ⟨e, he, q⟩ := List.mem_map.mp hx; rw [← q]; exact hin e he)
    rw [List.length_map] at this
    omega
  obtain ⟨h1, h2, h3⟩ := dx_H I hp hk
  refine wpAny_setItem_heap (knd := dkind X.prog X.w) (k := d) (hsz := h1) (show X.A.units + 1 + 10 < cLine by omega) ⟨hb.2.2, dp_at I _ _ _ hb.2.1 hb.1 rfl⟩ h3 fun h' hm hs => ?_
  obtain ⟨o, es, ep, e1, e2, e3, e4, _, e6⟩ := hm
  have ln : (storedH xs d b u).length ≤ sizeLine := by
    unfold storedH
    split
    · simpa using h1
    · simp; omega
  refine ⟨_, d_write (ob := DxO X.prog X.w p (storedH xs d b u)) I (by rw [hp]; exact True.intro) hs ⟨o, e1⟩ (dx_new ln h2 ⟨o, es, ep, e1, e2, e3, e4, e6⟩), q u rv⟩
/-- {} -/
theorem pe_newX {pos : Pos} : PE X (.Dict [] [] pos) (fun _ H Q => ∀ p, H p = none → Q (.ref p) (upd H p (DxO X.prog X.w p []))) := by
  refine ⟨fun pins s σ H Q I h => ?_⟩
  refine wpAny_Dict_empty ⟨.ref s.heap.objs.size, _, I.laid (a := s.heap.objs.size) (o := DxO X.prog X.w s.heap.objs.size []) (t' := s.toks) (fun _ _ q => Heap.get?_push_of_some _ q) (Nat.le_refl _) ?_, rfl, h _ (I.hok.fresh (Nat.le_refl _))⟩
  refine dx_new (Nat.zero_le _) ?_ ⟨_, #[], 0, Heap.get?_push_size _ rfl, ⟨rfl, rfl, rfl⟩, rfl, rfl, List.nodup_nil⟩
  exact beq_eq_false_iff_ne.mpr (Nat.ne_of_gt I.big)
end
end Z

namespace Z
open PySem L2 PyProof.Rows

/-! ### own things, weakened -/
section
variable {X : Cx} {e a b c : Expr} {es : List Expr} {st : Stmt} {rest body : List Stmt} {s s' s1 s2 s3 : S} {r : SD} {rs : List SD} {pos p : Pos} {R : Bool → S → Prop} {k : Bool} {P : Po} {M : S → Prop} {ds : List PyData} {x y : PyData} {i j : Int}
def OLe (P Q : Own) : Prop := ∀ K F H v fp, P.holds K F H v fp → Q.holds K F H v fp
theorem Sat.wkO {K : PySem.W.Frag} {σ : L2.St} {ρ : List V} {T : List En} {H : Hp} {j : Nat} {O Q : Own} (g : Sat K s σ ρ T H) (hj : s.R[j]? = some O) (h : OLe O Q) : Sat K ⟨s.e, s.R.set j Q⟩ σ ρ T H := by
  obtain ⟨v, e2, ok, bk⟩ := g.obj hj
  refine bk H Q ?_
  obtain ⟨F, L, e1, g1⟩ := ok
  cases L with
  | nil => simp at e1
  | cons z L =>
    obtain ⟨z1, fp⟩ := z
    simp at e1
    obtain ⟨e3, e4⟩ := e1
    subst e3
    obtain ⟨u, e5, h5⟩ := g1.ent _ List.mem_cons_self
    have nd := g1.nd
    have ow := g1.own
    unfold fpsOf at nd ow
    rw [List.flatMap_cons] at nd ow
    obtain ⟨n1, n2, n3⟩ := List.nodup_append.mp nd
    have ev : v = u := Option.some.inj e5
    subst ev
    refine ⟨F, (((IT.o Q, some v), fp) :: L), by rw [List.map_cons, e4], g1.tail.oCons (h _ _ _ _ _ h5) n1 (fun a ha hb => n3 a ha a hb rfl) fun a ha => ow a (List.mem_append_left _ ha)⟩
theorem zss_wkO {j : Nat} {O Q : Own} (hj : s.R[j]? = some O) (h : OLe O Q) (k : ZSs X rest ⟨s.e, s.R.set j Q⟩ P) : ZSs X rest s P := PSs.imp k fun D σ H ⟨t, T, ρ, e1, hb, g, q⟩ => by
  subst e1
  exact ⟨_, T, ρ, rfl, hb, g.wkO hj h, q⟩
theorem set_self {α : Type} {l : List α} {j : Nat} {a : α} (h : l[j]? = some a) : l.set j a = l := by
  obtain ⟨hj, e⟩ := List.getElem?_eq_some_iff.mp h
  subst e
  exact List.set_getElem_self hj

/-! ### memos -/
/-- a dict of answers: each told answer is right -/
def OM (pr : Program) (w : World) (f : PyData → PyData → Prop) : Own where
  holds := fun K F H v fp => ∃ p xs, v = .ref p ∧ fp = [p] ∧ H p = some (DxO pr w p xs) ∧ ∀ e ∈ xs, KyD K F e.2.1 e.1 ∧ ∃ vv dv, RelV vv e.2.2 ∧ Dp K F vv dv ∧ f e.1 dv
  stay := fun ⟨p, xs, e1, e2, e3, e4⟩ e k => ⟨p, xs, e1, e2, k p (by rw [e2]; simp) _ e3, fun z hz => let ⟨⟨a1, a2, a3⟩, vv, dv, a4, a5, a6⟩ := e4 z hz; ⟨⟨dpUp e _ _ a1, a2, a3⟩, vv, dv, a4, dpUp e _ _ a5, a6⟩⟩
/-- .. that knows the key d -/
def OMk (pr : Program) (w : World) (f : PyData → PyData → Prop) (d : PyData) : Own where
  holds := fun K F H v fp => ∃ p xs, v = .ref p ∧ fp = [p] ∧ H p = some (DxO pr w p xs) ∧ (atKey xs d).isSome = true ∧ ∀ e ∈ xs, KyD K F e.2.1 e.1 ∧ ∃ vv dv, RelV vv e.2.2 ∧ Dp K F vv dv ∧ f e.1 dv
  stay := fun ⟨p, xs, e1, e2, e3, e0, e4⟩ e k => ⟨p, xs, e1, e2, k p (by rw [e2]; simp) _ e3, e0, fun z hz => let ⟨⟨a1, a2, a3⟩, vv, dv, a4, a5, a6⟩ := e4 z hz; ⟨⟨dpUp e _ _ a1, a2, a3⟩, vv, dv, a4, dpUp e _ _ a5, a6⟩⟩
theorem OMk.le {pr : Program} {w : World} {f : PyData → PyData → Prop} {d : PyData} : OLe (OMk pr w f d) (OM pr w f) := fun K F H v fp ⟨p, xs, e1, e2, e3, _, e4⟩ => ⟨p, xs, e1, e2, e3, e4⟩
theorem ze_newM (f : PyData → PyData → Prop) : ZE X (.Dict [] [] pos) s (.r s.R.length) ⟨s.e, s.R ++ [OM X.prog X.w f]⟩ :=
  PE.imp pe_newX fun σ H Q ⟨T, ρ, g, k⟩ => fun p hp => by
    refine k _ (ρ ++ [.ref p]) _ (List.prefix_append _ _) g.newVR (Sat.tun ?_)
    obtain ⟨F, f1⟩ := g.ok.fz
    exact Sat.push (f1.newO hp ⟨p, [], rfl, rfl, upd_same, fun e he => by simp at he⟩) g.le g.lr g.al
theorem kyd {K : PySem.W.Frag} {H : Hp} {v : V} (h : Dp K H v (.tuple ds)) (k1 : kOK (.tuple ds) = true) (k2 : dep (.tuple ds) ≤ 8) : ∃ b, v = .ref b ∧ KyD K H b (.tuple ds) := by
  cases h with
  | tup hs ha => exact ⟨_, rfl, .tup hs ha, k1, k2⟩
theorem KyD.up {K : PySem.W.Frag} {F H : Hp} {a : Addr} {d : PyData} (e : Ext F H) (h : KyD K F a d) : KyD K H a d := ⟨dpUp e _ _ h.1, h.2.1, h.2.2⟩
theorem storedH_mem {xs : List DEn} {d : PyData} {b : Addr} {u : Value} {e : DEn} (h : e ∈ storedH xs d b u) : e ∈ xs ∨ e = (d, b, u) ∨ ∃ z ∈ xs, z.1 = d ∧ e = (d, z.2.1, u) := by
  unfold storedH at h
  split at h
  · obtain ⟨z, hz, e1⟩ := List.mem_map.mp h
    unfold putAt at e1
    split at e1
    · rename_i hd
      subst e1
      exact .inr (.inr ⟨z, hz, hd, by rw [hd]⟩)
    · subst e1
      exact .inl hz
  · rcases List.mem_append.mp h with h | h
    · exact .inl h
    · exact .inr (.inl (by simpa using h))
theorem storedH_has {xs : List DEn} {d : PyData} {b : Addr} {u : Value} : (atKey (storedH xs d b u) d).isSome = true := by
  unfold storedH
  split
  · rename_i h
    unfold atKey at h ⊢
    rw [Option.isSome_map] at h ⊢
    rw [List.find?_isSome] at h ⊢
    obtain ⟨z, hz, e⟩ := h
    refine ⟨putAt d u z, List.mem_map.mpr ⟨z, hz, rfl⟩, ?_⟩
    have e1 : z.1 = d := of_decide_eq_true e
    unfold putAt
    rw [if_pos e1]
    exact e
  · unfold atKey
    rw [Option.isSome_map, List.find?_isSome]
    exact ⟨(d, b, u), by simp, by simp⟩
/-- a memo among the objects -/
theorem Sat.memo {K : PySem.W.Frag} {pr : Program} {w : World} {f : PyData → PyData → Prop} {σ : L2.St} {ρ : List V} {T : List En} {H : Hp} {o : Nat} {v : V} {O : Own} (g : Sat K s σ ρ T H) (ho : s.R[o]? = some O) (hO : OLe O (OM pr w f)) (hv : ρ[o]? = some v) :
    ∃ F p xs, v = .ref p ∧ H p = some (DxO pr w p xs) ∧ Ext F H ∧ (∀ {x u}, (IT.d x, some u) ∈ T → Dp K F u x) ∧ (∀ e ∈ xs, KyD K F e.2.1 e.1 ∧ ∃ vv dv, RelV vv e.2.2 ∧ Dp K F vv dv ∧ f e.1 dv) ∧
      (∀ d, (atKey xs d).isSome = true → Sat K ⟨s.e, s.R.set o (OMk pr w f d)⟩ σ ρ T H) ∧ (∀ {x u}, Dp K F u x → Sat K s σ ρ ((IT.d x, some u) :: T) H) ∧
      ∀ d b u vv dv, KyD K F b d → RelV vv u → Dp K F vv dv → f d dv → Sat K ⟨s.e, s.R.set o (OMk pr w f d)⟩ σ ρ T (upd H p (DxO pr w p (storedH xs d b u))) := by
  obtain ⟨v', e2, ok, bk⟩ := g.obj ho
  have ev : v' = v := Option.some.inj (e2.symm.trans hv)
  subst ev
  obtain ⟨F, L, e1, g1⟩ := ok
  cases L with
  | nil => simp at e1
  | cons z L =>
    obtain ⟨z1, fp⟩ := z
    simp at e1
    obtain ⟨e3, e4⟩ := e1
    subst e3
    obtain ⟨u, e5, h0⟩ := g1.ent _ List.mem_cons_self
    have e5' : v' = u := Option.some.inj e5
    subst e5'
    obtain ⟨p, xs, h1, h2, h3, h4⟩ := hO _ _ _ _ _ h0
    have nd := g1.nd
    have ow := g1.own
    unfold fpsOf at nd ow
    rw [List.flatMap_cons] at nd ow
    obtain ⟨n1, n2, n3⟩ := List.nodup_append.mp nd
    have h2' : fp = [p] := h2
    subst h2'
    have fz : Fz K F (T ++ (ES s.e σ ++ (RS s.R ρ).set o (IT.un, some v'))) H := ⟨L, e4, g1.tail⟩
    refine ⟨F, p, xs, h1, h3, g1.ext, fun {x u} m => ?_, h4, fun d hd => bk H _ ⟨F, (((IT.o (OMk pr w f d), some v'), [p]) :: L), by rw [List.map_cons, e4], ?_⟩, fun {x u} hx => ?_, fun d b u vv dv hb hu hd hf => bk _ _ ⟨F, (((IT.o (OMk pr w f d), some v'), [p]) :: L), by rw [List.map_cons, e4], ?_⟩⟩
    · obtain ⟨u', e6, hd⟩ := fz.at (List.mem_append_left _ m)
      cases e6
      exact hd
    · exact g1.tail.oCons ⟨p, xs, h1, rfl, h3, hd, h4⟩ n1 (fun a ha hb => n3 a ha a hb rfl) fun a ha => ow a (List.mem_append_left _ ha)
    · have whole : Fz K F ((IT.o O, some v') :: (T ++ (ES s.e σ ++ (RS s.R ρ).set o (IT.un, some v')))) H := ⟨(((IT.o O, some v'), [p]) :: L), by rw [List.map_cons, e4], g1⟩
      have a1 := (whole.add hx).ok
      have a2 : OK K ((IT.o O, some v') :: (((IT.d x, some u) :: T) ++ (ES s.e σ ++ (RS s.R ρ).set o (IT.un, some v')))) H := a1.perm (List.Perm.swap _ _ _)
      have b := ZE.frz.back2 (T2 := (IT.d x, some u) :: T) g ho hv a2
      rw [set_self ho] at b
      exact b
    · refine g1.change (H' := upd H p (DxO pr w p (storedH xs d b u))) (Q := OMk pr w f d) ⟨p, _, h1, rfl, upd_same, storedH_has, fun e he => ?_⟩ (fun a o' ha e => ?_) fun a ha => ?_
      · rcases storedH_mem he with q | q | ⟨z, hz, q1, q2⟩
        · exact h4 e q
        · subst q
          exact ⟨hb, vv, dv, hu, hd, hf⟩
        · subst q2
          have := (h4 z hz).1
          rw [q1] at this
          exact ⟨this, vv, dv, hu, hd, hf⟩
      · rw [upd_ne (by simpa using ha)]; exact e
      · have e : a = p := by simpa using ha
        subst e
        exact ⟨_, upd_same⟩
variable {f : PyData → PyData → Prop} {o : Nat}
/-- key in memo, key not in memo -/
theorem zt_in (ho : s2.R[o]? = some (OM X.prog X.w f)) (ha : ZE X a s (.d (.tuple ds)) s1) (hb : ZE X b s1 (.r o) s2) (k1 : kOK (.tuple ds) = true) (k2 : dep (.tuple ds) ≤ 8) (hu : X.A.units + 20 < cLine) (hm : behindInMarks .In b = false := by rfl) :
    ZT X (.Compare a [.In] [b] pos) s (fun k t => t = if k = true then ⟨s2.e, s2.R.set o (OMk X.prog X.w f (.tuple ds))⟩ else s2) := by
  refine PT.imp (pt_cmpR (op_inX hu) ha hb hm) fun σ H Q ⟨T, ρ, g, q⟩ => ⟨T, ρ, g, fun u ρ1 H1 p1 vr1 g1 => ⟨_, ρ1, g1, fun w ρ2 H2 p2 vr2 g2 => ?_⟩⟩
  obtain ⟨F, p, xs, e1, hp, ex, dp, hx, kn, _, _⟩ := g2.memo ho (fun _ _ _ _ _ h => h) vr2
  subst e1
  obtain ⟨b', e2, hk⟩ := kyd (dp (x := .tuple ds) (u := u) (List.mem_cons_of_mem _ List.mem_cons_self)) k1 k2
  subst e2
  refine ⟨p, b', xs, _, rfl, rfl, hp, fun e he => (hx e he).1.up ex, hk.up ex, _, rfl, ?_⟩
  rw [if_neg Bool.false_ne_true]
  cases hc : (atKey xs (PyData.tuple ds)).isSome with
  | true => exact q true _ ρ2 H2 (if_pos rfl).symm (p1.trans p2) (kn _ hc).tdrop.tdrop
  | false => exact q false _ ρ2 H2 (if_neg Bool.false_ne_true).symm (p1.trans p2) g2.tdrop.tdrop
theorem zt_nin (ho : s2.R[o]? = some (OM X.prog X.w f)) (ha : ZE X a s (.d (.tuple ds)) s1) (hb : ZE X b s1 (.r o) s2) (k1 : kOK (.tuple ds) = true) (k2 : dep (.tuple ds) ≤ 8) (hu : X.A.units + 20 < cLine) (hm : behindInMarks .NotIn b = false := by rfl) :
    ZT X (.Compare a [.NotIn] [b] pos) s (fun k t => t = if k = true then s2 else ⟨s2.e, s2.R.set o (OMk X.prog X.w f (.tuple ds))⟩) := by
  refine PT.imp (pt_cmpR (op_ninX hu) ha hb hm) fun σ H Q ⟨T, ρ, g, q⟩ => ⟨T, ρ, g, fun u ρ1 H1 p1 vr1 g1 => ⟨_, ρ1, g1, fun w ρ2 H2 p2 vr2 g2 => ?_⟩⟩
  obtain ⟨F, p, xs, e1, hp, ex, dp, hx, kn, _, _⟩ := g2.memo ho (fun _ _ _ _ _ h => h) vr2
  subst e1
  obtain ⟨b', e2, hk⟩ := kyd (dp (x := .tuple ds) (u := u) (List.mem_cons_of_mem _ List.mem_cons_self)) k1 k2
  subst e2
  refine ⟨p, b', xs, _, rfl, rfl, hp, fun e he => (hx e he).1.up ex, hk.up ex, _, rfl, ?_⟩
  rw [if_pos rfl]
  cases hc : (atKey xs (PyData.tuple ds)).isSome with
  | true => exact q false _ ρ2 H2 (if_neg Bool.false_ne_true).symm (p1.trans p2) (kn _ hc).tdrop.tdrop
  | false => exact q true _ ρ2 H2 (if_pos rfl).symm (p1.trans p2) g2.tdrop.tdrop
/-- memo[key], the key there -/
theorem ze_memo (ho : s2.R[o]? = some (OMk X.prog X.w f (.tuple ds))) (hf : ∀ y, f (.tuple ds) y → y = x) (ha : ZE X a s (.r o) s1) (hb : ZE X b s1 (.d (.tuple ds)) s2) (k1 : kOK (.tuple ds) = true) (k2 : dep (.tuple ds) ≤ 8) (hu : X.A.units + 20 < cLine) (hs : PlainIx b := by intro _ _; rfl) :
    ZE X (.Subscript a b pos) s (.d x) ⟨s2.e, s2.R.set o (OM X.prog X.w f)⟩ := by
  refine PE.imp (pe_ix (ix_X hu) ha hb hs) fun σ H Q ⟨T, ρ, g, q⟩ => ⟨T, ρ, g, fun u ρ1 H1 p1 vr1 g1 => ⟨_, ρ1, g1, fun w ρ2 H2 p2 vr2 g2 => ?_⟩⟩
  obtain ⟨v0, e0, ok, bk⟩ := g2.obj ho
  have ev : v0 = u := Option.some.inj (e0.symm.trans (VR.mono (r := .r o) vr1 p2))
  subst ev
  obtain ⟨F, f1⟩ := ok.fz
  obtain ⟨u', fp, e3, p, xs, e4, e5, e6, e7, e8⟩ := f1.own List.mem_cons_self
  cases e3
  subst e4
  obtain ⟨w', e9, hd⟩ := f1.at (x := .tuple ds) (v := some w) (List.mem_cons_of_mem _ (List.mem_append_left _ List.mem_cons_self))
  cases e9
  obtain ⟨b', e10, hk⟩ := kyd hd k1 k2
  subst e10
  obtain ⟨⟨c, val⟩, hc⟩ := Option.isSome_iff_exists.mp e7
  -- the entry that was found
  have hm : (PyData.tuple ds, c, val) ∈ xs := by
    unfold atKey at hc
    obtain ⟨z, hz, e⟩ := Option.map_eq_some_iff.mp hc
    have h1 := List.mem_of_find?_eq_some hz
    have h0 := List.find?_some (p := fun x : DEn => decide (x.fst = PyData.tuple ds)) hz
    have h2 : z.1 = PyData.tuple ds := of_decide_eq_true h0
    rw [← h2, show (z.1, c, val) = z by rw [← e]]
    exact h1
  obtain ⟨_, vv, dv, r1, r2, r3⟩ := e8 _ hm
  have ed : dv = x := hf dv r3
  subst ed
  refine ⟨p, b', xs, _, c, val, vv, rfl, rfl, e6, fun e he => (e8 e he).1.up f1.ext, hk.up f1.ext, hc, r1, ?_⟩
  have g3 := (g2.wkO ho OMk.le)
  have hj : o < s2.R.length := (List.getElem?_eq_some_iff.mp ho).1
  -- the datum on top
  have a1 := (f1.add r2).ok
  have a2 : OK X.K ((IT.o (OMk X.prog X.w f (.tuple ds)), some (V.ref p)) :: (((IT.d dv, some vv) :: ((IT.d (.tuple ds), some (.ref b')) :: (itOf (SD.r o), some (V.ref p)) :: T)) ++ (ES s2.e σ ++ (RS s2.R ρ2).set o (IT.un, some (V.ref p))))) H2 := a1.perm (List.Perm.swap _ _ _)
  have b := ZE.frz.back2 (T2 := (IT.d dv, some vv) :: ((IT.d (.tuple ds), some (.ref b')) :: (itOf (SD.r o), some (V.ref p)) :: T)) g2 ho e0 a2
  rw [set_self ho] at b
  have b2 := b.wkO ho OMk.le
  refine q vv ρ2 H2 (p1.trans p2) trivial ?_
  exact (b2.tperm ((List.perm_append_comm (l₁ := [(IT.d dv, some vv)]) (l₂ := [(IT.d (.tuple ds), some (.ref b')), (itOf (SD.r o), some (V.ref p))])).append_right T)).tdrops (T1 := [(IT.d (.tuple ds), some (.ref b')), (itOf (SD.r o), some (V.ref p))])
/-- memo[key] = value -/
theorem zss_memo {tpos : Pos} {U : List PyData} (he : ZE X e s (.d x) s1) (ha : ZE X a s1 (.r o) s2) (hb : ZE X b s2 (.d (.tuple ds)) s3) (ho : s3.R[o]? = some (OM X.prog X.w f)) (hf : f (.tuple ds) x) (hU : ∀ k v, f k v → k ∈ U) (hz : U.length < sizeLine) (k1 : kOK (.tuple ds) = true) (k2 : dep (.tuple ds) ≤ 8) (hu : X.A.units + 20 < cLine)
    (k : ZSs X rest ⟨s3.e, s3.R.set o (OMk X.prog X.w f (.tuple ds))⟩ P)
    (hsub : ∀ v, assign (.Subscript a b tpos) X.env v = (do
      let ov ← holding [v] (eval a X.env)
      let iv ← holding [v, ov] (eval b X.env)
      standAt tpos
      holding [v, ov, iv] (setItem ov iv v)
      release [v, ov, iv] []) := by intro _; rfl)
    (hs : swapsWithSole [.Subscript a b tpos] e pos.line X.env = pure false := by rfl) (hw : swappedStores [.Subscript a b tpos] e X.env = pure none := by rfl) (h1 : (assignEach [.Subscript a b tpos] X.env).map (·.2) = [assign (.Subscript a b tpos) X.env] := by rfl) :
    ZSs X (.Assign [.Subscript a b tpos] e pos :: rest) s P := by
  refine zss_seq (M := fun t => t = ⟨s3.e, s3.R.set o (OMk X.prog X.w f (.tuple ds))⟩) (PS.imp (ps_asg he (pg_sub ha hb (put_X hu) hsub) hs hw h1) fun D σ H ⟨t, T, ρ, e1, hb0, g, q⟩ => ?_) fun t e => by subst e; exact k
  subst e1
  refine ⟨T, ρ, g, fun v ρ1 H1 p1 vr1 g1 => ⟨_, ρ1, g1, fun u ρ2 H2 p2 vr2 g2 => ⟨_, ρ2, g2, fun w ρ3 H3 p3 vr3 g3 => ?_⟩⟩⟩
  obtain ⟨F, p, xs, e1, hp, ex, dp, hx, kn, _, put⟩ := g3.memo ho (fun _ _ _ _ _ h => h) (VR.mono (r := .r o) vr2 p3)
  subst e1
  obtain ⟨b', e2, hk⟩ := kyd (dp (x := .tuple ds) (u := w) List.mem_cons_self) k1 k2
  subst e2
  have hv : Dp X.K F v x := dp (List.mem_cons_of_mem _ (List.mem_cons_of_mem _ List.mem_cons_self))
  refine ⟨p, b', xs, _, rfl, rfl, hp, fun e he => (hx e he).1.up ex, hk.up ex, ⟨U, hz, fun e he => let ⟨_, _, _, _, _, h⟩ := hx e he; hU _ _ h⟩, fun val rv => q.nx _ σ ρ3 _ rfl ((List.take_prefix _ _).trans ((p1.trans p2).trans p3)) (put _ b' val v x hk rv hv hf).tdrop.tdrop.tdrop⟩
end
end Z

namespace Z
open PySem L2 PyProof.Rows

/-! ### isinstance -/
def tyN : PyData → String
  | .none => "NoneType"
  | .bool _ => "bool"
  | .int _ => "int"
  | .str _ => "str"
  | .list _ => "list"
  | .tuple _ => "tuple"
  | .dict _ => "dict"
theorem sqL_ty {K : PySem.W.Frag} {H : Hp} {a : Addr} {xs : List V} (h : SqL K H a xs) : TyX K H (.ref a) (.type "list") := by
  rcases h with (h | ⟨o, h⟩) | ⟨o, its, n, hk, hc, _⟩
  · exact .base (.lst h)
  · exact .base (.frz h)
  · exact .kList hk hc
theorem sqT_ty {K : PySem.W.Frag} {H : Hp} {a : Addr} {xs : List V} (h : SqT K H a xs) : TyX K H (.ref a) (.type "tuple") := by
  rcases h with (h | ⟨o, h⟩) | ⟨o, its, n, hk, hc, _⟩
  · exact .base (.tup h)
  · exact .fTuple h
  · exact .kTuple hk hc
theorem dp_ty {K : PySem.W.Frag} {H : Hp} {v : V} {x : PyData} (h : Dp K H v x) : TyX K H v (.type (tyN x)) := by
  cases h with
  | non => exact .base .non
  | bl b => exact .base (.bl b)
  | int i => exact .base (.int i)
  | str y => exact .base (.str y)
  | lst hs ha => exact sqL_ty hs
  | tup hs ha => exact sqT_ty hs
section
variable {X : Cx} {e a b c : Expr} {es : List Expr} {s s' s1 s2 s3 : S} {r r1 r2 : SD} {rs : List SD} {pos p q : Pos} {k : Bool} {x y z : PyData} {ds : List PyData} {T : Str} {n : String}
theorem ze_isi (w : Vw s1 r x) (hk : kitB (tyN x) n = some k) (ha : ZE X a s r s1) (hm : X.mg "isinstance" = none) (hmT : X.mg T = none) (hv : bootBuiltins T = some (.type n) := by decide +kernel) (hg : Gl X T := by rfl) (hc : Cl X "isinstance" a [.Name T q] pos := by exact ⟨rfl, rfl, rfl⟩)
    (hs : starEach [Expr.Name T q] X.env = [(false, eval (.Name T q) X.env)] := by rfl) (hn : T ≠ "__name__" := by decide) (hd : (T == ("__debug__" : Str)) = false := by decide) :
    ZE X (.Call (.Name "isinstance" p) [a, .Name T q] [] pos) s (.d (.bool k)) s1 := by
  refine PE.imp (pe_callB call_isi hc.1 hm (by decide +kernel) (pa_cons ha (pa_cons (pe_bltn hg hmT hv (v := .ty n) rfl hn hd) pa_nil hs) hc.2.1) (by decide) (by decide) hc.2.1 hc.2.2) fun σ H Q ⟨T, ρ, g, q⟩ => ⟨T, ρ, g, fun v ρ' H' p vr g' => ?_⟩
  have d := g'.see List.mem_cons_self vr w
  exact ⟨_, _, _, _, k, rfl, .ty n, dp_ty d, kit_ty hk, q _ ρ' H' p trivial (g'.tdrop.tflat (show flat (.bl k) (.bool k) from rfl))⟩
theorem zt_isi (w : Vw s1 r x) (hk : kitB (tyN x) n = some k) (ha : ZE X a s r s1) (hm : X.mg "isinstance" = none) (hmT : X.mg T = none) (hv : bootBuiltins T = some (.type n) := by decide +kernel) (hg : Gl X T := by rfl) (hc : Cl X "isinstance" a [.Name T q] pos := by exact ⟨rfl, rfl, rfl⟩)
    (hs : starEach [Expr.Name T q] X.env = [(false, eval (.Name T q) X.env)] := by rfl) (hn : T ≠ "__name__" := by decide) (hd : (T == ("__debug__" : Str)) = false := by decide) :
    ZT X (.Call (.Name "isinstance" p) [a, .Name T q] [] pos) s (Is k s1) := zt_tru (ze_isi w hk ha hm hmT hv hg hc hs hn hd) (.d _) trivial
def isTup : PyData → Bool | .tuple _ => true | _ => false
def isLst : PyData → Bool | .list _ => true | _ => false
def isBl : PyData → Bool | .bool _ => true | _ => false
def isInt : PyData → Bool | .bool _ => true | .int _ => true | _ => false
def isStr : PyData → Bool | .str _ => true | _ => false
def isNon : PyData → Bool | .none => true | _ => false
theorem kit_tup (x : PyData) : kitB (tyN x) "tuple" = some (isTup x) := by
  have h : kitB "NoneType" "tuple" = some (isTup .none) ∧ kitB "bool" "tuple" = some (isTup (.bool true)) ∧ kitB "int" "tuple" = some (isTup (.int 0)) ∧ kitB "str" "tuple" = some (isTup (.str (Str.ofString ""))) ∧ kitB "list" "tuple" = some (isTup (.list [])) ∧ kitB "tuple" "tuple" = some (isTup (.tuple [])) ∧ kitB "dict" "tuple" = some (isTup (.dict [])) := by decide +kernel
  obtain ⟨h1, h2, h3, h4, h5, h6, h7⟩ := h
  cases x <;> first | exact h1 | exact h2 | exact h3 | exact h4 | exact h5 | exact h6 | exact h7
theorem kit_lst (x : PyData) : kitB (tyN x) "list" = some (isLst x) := by
  have h : kitB "NoneType" "list" = some (isLst .none) ∧ kitB "bool" "list" = some (isLst (.bool true)) ∧ kitB "int" "list" = some (isLst (.int 0)) ∧ kitB "str" "list" = some (isLst (.str (Str.ofString ""))) ∧ kitB "list" "list" = some (isLst (.list [])) ∧ kitB "tuple" "list" = some (isLst (.tuple [])) ∧ kitB "dict" "list" = some (isLst (.dict [])) := by decide +kernel
  obtain ⟨h1, h2, h3, h4, h5, h6, h7⟩ := h
  cases x <;> first | exact h1 | exact h2 | exact h3 | exact h4 | exact h5 | exact h6 | exact h7
theorem kit_bl (x : PyData) : kitB (tyN x) "bool" = some (isBl x) := by
  have h : kitB "NoneType" "bool" = some (isBl .none) ∧ kitB "bool" "bool" = some (isBl (.bool true)) ∧ kitB "int" "bool" = some (isBl (.int 0)) ∧ kitB "str" "bool" = some (isBl (.str (Str.ofString ""))) ∧ kitB "list" "bool" = some (isBl (.list [])) ∧ kitB "tuple" "bool" = some (isBl (.tuple [])) ∧ kitB "dict" "bool" = some (isBl (.dict [])) := by decide +kernel
  obtain ⟨h1, h2, h3, h4, h5, h6, h7⟩ := h
  cases x <;> first | exact h1 | exact h2 | exact h3 | exact h4 | exact h5 | exact h6 | exact h7
theorem kit_int (x : PyData) : kitB (tyN x) "int" = some (isInt x) := by
  have h : kitB "NoneType" "int" = some (isInt .none) ∧ kitB "bool" "int" = some (isInt (.bool true)) ∧ kitB "int" "int" = some (isInt (.int 0)) ∧ kitB "str" "int" = some (isInt (.str (Str.ofString ""))) ∧ kitB "list" "int" = some (isInt (.list [])) ∧ kitB "tuple" "int" = some (isInt (.tuple [])) ∧ kitB "dict" "int" = some (isInt (.dict [])) := by decide +kernel
  obtain ⟨h1, h2, h3, h4, h5, h6, h7⟩ := h
  cases x <;> first | exact h1 | exact h2 | exact h3 | exact h4 | exact h5 | exact h6 | exact h7
theorem kit_str (x : PyData) : kitB (tyN x) "str" = some (isStr x) := by
  have h : kitB "NoneType" "str" = some (isStr .none) ∧ kitB "bool" "str" = some (isStr (.bool true)) ∧ kitB "int" "str" = some (isStr (.int 0)) ∧ kitB "str" "str" = some (isStr (.str (Str.ofString ""))) ∧ kitB "list" "str" = some (isStr (.list [])) ∧ kitB "tuple" "str" = some (isStr (.tuple [])) ∧ kitB "dict" "str" = some (isStr (.dict [])) := by decide +kernel
  obtain ⟨h1, h2, h3, h4, h5, h6, h7⟩ := h
  cases x <;> first | exact h1 | exact h2 | exact h3 | exact h4 | exact h5 | exact h6 | exact h7

/-! ### is None -/
theorem zt_isN {j : Nat} {p' : Pos} (w : Vw s1 r x) (ha : ZE X a s r s1) : ZT X (.Compare a [.Is] [.Constant .none j p'] pos) s (Is (isNon x) s1) := by
  refine PT.imp (pt_cmp (pc_isN ha) (by rfl)) fun σ H Q ⟨T, ρ, g, q⟩ => ?_
  exact ⟨T, ρ, g, fun v ρ' H' p vr g' => ⟨_, rfl, by
    have d := g'.see List.mem_cons_self vr w
    refine q _ s1 ρ' H' ⟨?_, rfl⟩ p g'.tdrop
    cases d <;> first | rfl | exact decide_eq_false (fun e => nomatch e)⟩⟩
theorem ze_isN {j : Nat} {p' : Pos} (w : Vw s1 r x) (ha : ZE X a s r s1) : ZE X (.Compare a [.Is] [.Constant .none j p'] pos) s (.d (.bool (isNon x))) s1 := by
  refine PE.imp (pe_cmp (pc_isN ha) (by rfl)) fun σ H Q ⟨T, ρ, g, q⟩ => ?_
  exact ⟨T, ρ, g, fun v ρ' H' p vr g' => by
    have d := g'.see List.mem_cons_self vr w
    have e : decide (v = .non) = isNon x := by cases d <;> first | rfl | exact decide_eq_false (fun e => nomatch e)
    show Q (.bl (decide (v = .non))) H'
    rw [e]
    exact q _ ρ' H' p trivial (g'.tdrop.tflat (show flat (.bl _) (.bool _) from rfl))⟩
theorem zt_notN {j : Nat} {p' : Pos} (w : Vw s1 r x) (ha : ZE X a s r s1) : ZT X (.Compare a [.IsNot] [.Constant .none j p'] pos) s (Is (!isNon x) s1) := by
  refine PT.imp (pt_cmp (pc_notN ha) (by rfl)) fun σ H Q ⟨T, ρ, g, q⟩ => ?_
  exact ⟨T, ρ, g, fun v ρ' H' p vr g' => ⟨_, rfl, by
    have d := g'.see List.mem_cons_self vr w
    refine q _ s1 ρ' H' ⟨?_, rfl⟩ p g'.tdrop
    cases d <;> first | rfl | (exact congrArg (!·) (decide_eq_false (fun e => nomatch e)))⟩⟩

/-! ### all, any -/
theorem dps_bl {K : PySem.W.Frag} {F : Hp} : ∀ {bs : List Bool} {vs : List V}, DpAll K F vs (bs.map .bool) → vs = bs.map V.bl
  | [], _, h => by cases h; rfl
  | b :: bs, _, h => by
    cases h with
    | cons h1 h2 => cases h1; rw [dps_bl h2]; rfl
theorem ze_all {bs : List Bool} (w : Vw s1 r (.list (bs.map .bool))) (ha : ZA X [a] s [r] s1) (hm : X.mg "all" = none) (hk : X.calm = true := by rfl) (c : Cl X "all" a [] pos := by exact ⟨rfl, rfl, rfl⟩) : ZE X (.Call (.Name "all" p) [a] [] pos) s (.d (.bool (bs.all id))) s1 :=
  ze_callB (cr_all hk) (by decide +kernel) ha hm c (ca1 fun u T σ ρ H Q g vr k => by
    obtain ⟨F, p, vs, e1, hs, hd, _⟩ := g.seeL List.mem_cons_self vr w
    subst e1
    have := dps_bl hd
    subst this
    exact ⟨p, bs, rfl, hs, k _ ρ H (pre_refl ρ) trivial (g.tdrop.tflat (show flat (.bl _) (.bool _) from rfl))⟩)
theorem ze_any {bs : List Bool} (w : Vw s1 r (.list (bs.map .bool))) (ha : ZA X [a] s [r] s1) (hm : X.mg "any" = none) (hk : X.calm = true := by rfl) (c : Cl X "any" a [] pos := by exact ⟨rfl, rfl, rfl⟩) : ZE X (.Call (.Name "any" p) [a] [] pos) s (.d (.bool (bs.any id))) s1 :=
  ze_callB (cr_any hk) (by decide +kernel) ha hm c (ca1 fun u T σ ρ H Q g vr k => by
    obtain ⟨F, p, vs, e1, hs, hd, _⟩ := g.seeL List.mem_cons_self vr w
    subst e1
    have := dps_bl hd
    subst this
    exact ⟨p, bs, rfl, hs, k _ ρ H (pre_refl ρ) trivial (g.tdrop.tflat (show flat (.bl _) (.bool _) from rfl))⟩)

/-! ### x in a list, a tuple -/
def rInZ (K : PySem.W.Frag) (u : Nat) (neg : Bool) : R2 := fun x y H Q => ∃ d c ds, Dp K H x d ∧ Dp K H y c ∧ (c = .list ds ∨ c = .tuple ds) ∧ PyData.plainAll ds = true ∧ d.plain = true ∧ u + 1 + min (PyData.depthAll ds) d.depth < cLine ∧ Q (.bl (if neg then !(ds.any fun z => PyData.eqv z d) else ds.any fun z => PyData.eqv z d)) H
theorem op_inZ : OpR X (compareOp .In) (rInZ X.K X.A.units false) := by
  intro pins s σ H x y v u Q I rx ry h
  obtain ⟨d, c, ds, hd, hc, e, p1, p2, hu, q⟩ := h
  obtain ⟨as, r1⟩ := Dp.reads I d x v hd rx
  obtain ⟨bs, r2⟩ := Dp.reads I c y u hc ry
  rcases e with e | e
  · subst e
    exact SeqAt.in_list_data r2 r1 p1 p2 hu ⟨.bl _, H, I, rfl, q⟩
  · subst e
    exact SeqAt.in_tuple_data r2 r1 p1 p2 hu ⟨.bl _, H, I, rfl, q⟩
theorem op_ninZ : OpR X (compareOp .NotIn) (rInZ X.K X.A.units true) := by
  intro pins s σ H x y v u Q I rx ry h
  obtain ⟨d, c, ds, hd, hc, e, p1, p2, hu, q⟩ := h
  obtain ⟨as, r1⟩ := Dp.reads I d x v hd rx
  obtain ⟨bs, r2⟩ := Dp.reads I c y u hc ry
  rcases e with e | e
  · subst e
    exact SeqAt.notIn_list_data r2 r1 p1 p2 hu ⟨.bl _, H, I, rfl, q⟩
  · subst e
    exact SeqAt.notIn_tuple_data r2 r1 p1 p2 hu ⟨.bl _, H, I, rfl, q⟩
theorem zt_inZ {c : PyData} {rb : SD} (w1 : Vw s2 r x) (w2 : Vw s2 rb c) (hc : c = .list ds ∨ c = .tuple ds) (ha : ZE X a s r s1) (hb : ZE X b s1 rb s2) (p1 : PyData.plainAll ds = true) (p2 : x.plain = true) (hu : X.A.units + 1 + min (PyData.depthAll ds) x.depth < cLine) (hm : behindInMarks .In b = false := by rfl) :
    ZT X (.Compare a [.In] [b] pos) s (Is (ds.any fun z => PyData.eqv z x) s2) :=
  zt_cmp op_inZ ha hb (fun u w T σ ρ H Q g va vb k => ⟨x, c, ds, g.see (List.mem_cons_of_mem _ List.mem_cons_self) va w1, g.see List.mem_cons_self vb w2, hc, p1, p2, hu, k _ ρ H (pre_refl ρ) trivial (g.tdrop.tdrop.tflat (show flat (.bl _) (.bool _) from rfl))⟩) hm
theorem zt_ninZ {c : PyData} {rb : SD} (w1 : Vw s2 r x) (w2 : Vw s2 rb c) (hc : c = .list ds ∨ c = .tuple ds) (ha : ZE X a s r s1) (hb : ZE X b s1 rb s2) (p1 : PyData.plainAll ds = true) (p2 : x.plain = true) (hu : X.A.units + 1 + min (PyData.depthAll ds) x.depth < cLine) (hm : behindInMarks .NotIn b = false := by rfl) :
    ZT X (.Compare a [.NotIn] [b] pos) s (Is (!(ds.any fun z => PyData.eqv z x)) s2) :=
  zt_cmp op_ninZ ha hb (fun u w T σ ρ H Q g va vb k => ⟨x, c, ds, g.see (List.mem_cons_of_mem _ List.mem_cons_self) va w1, g.see List.mem_cons_self vb w2, hc, p1, p2, hu, k _ ρ H (pre_refl ρ) trivial (g.tdrop.tdrop.tflat (show flat (.bl _) (.bool _) from rfl))⟩) hm

/-! ### == and != of data without dicts -/
def rEqZ (K : PySem.W.Frag) (u : Nat) (neg : Bool) : R2 := fun x y H Q => ∃ d c, Dp K H x d ∧ Dp K H y c ∧ d.plain = true ∧ c.plain = true ∧ u + min d.depth c.depth < cLine ∧ Q (.bl (if neg then !PyData.eqv d c else PyData.eqv d c)) H
theorem op_eqZ : OpR X (compareOp .Eq) (rEqZ X.K X.A.units false) := by
  intro pins s σ H x y v u Q I rx ry h
  obtain ⟨d, c, hd, hc, p1, p2, hu, q⟩ := h
  obtain ⟨as, r1⟩ := Dp.reads I d x v hd rx
  obtain ⟨bs, r2⟩ := Dp.reads I c y u hc ry
  exact SeqAt.eq_plain r1 r2 p1 p2 hu ⟨.bl _, H, I, rfl, q⟩
theorem op_neZ : OpR X (compareOp .NotEq) (rEqZ X.K X.A.units true) := by
  intro pins s σ H x y v u Q I rx ry h
  obtain ⟨d, c, hd, hc, p1, p2, hu, q⟩ := h
  obtain ⟨as, r1⟩ := Dp.reads I d x v hd rx
  obtain ⟨bs, r2⟩ := Dp.reads I c y u hc ry
  exact SeqAt.ne_plain r1 r2 p1 p2 hu ⟨.bl _, H, I, rfl, q⟩
theorem bi_eqZ {neg : Bool} {ra rb : SD} (w1 : Vw s ra x) (w2 : Vw s rb y) (p1 : x.plain = true) (p2 : y.plain = true) (hu : X.A.units + min x.depth y.depth < cLine) : Bi X.K (rEqZ X.K X.A.units neg) s ra rb (.d (.bool (if neg then !PyData.eqv x y else PyData.eqv x y))) s := fun u w T σ ρ H Q g va vb k =>
  ⟨x, y, g.see (List.mem_cons_of_mem _ List.mem_cons_self) va w1, g.see List.mem_cons_self vb w2, p1, p2, hu, k _ ρ H (pre_refl ρ) trivial (g.tdrop.tdrop.tflat (show flat (.bl _) (.bool _) from rfl))⟩
theorem ze_eqP {rb : SD} (w1 : Vw s2 r x) (w2 : Vw s2 rb y) (ha : ZE X a s r s1) (hb : ZE X b s1 rb s2) (p1 : x.plain = true) (p2 : y.plain = true) (hu : X.A.units + min x.depth y.depth < cLine) : ZE X (.Compare a [.Eq] [b] pos) s (.d (.bool (PyData.eqv x y))) s2 := ze_cmp op_eqZ ha hb (bi_eqZ (neg := false) w1 w2 p1 p2 hu) (nomark _)
theorem ze_neP {rb : SD} (w1 : Vw s2 r x) (w2 : Vw s2 rb y) (ha : ZE X a s r s1) (hb : ZE X b s1 rb s2) (p1 : x.plain = true) (p2 : y.plain = true) (hu : X.A.units + min x.depth y.depth < cLine) : ZE X (.Compare a [.NotEq] [b] pos) s (.d (.bool (!PyData.eqv x y))) s2 := ze_cmp op_neZ ha hb (bi_eqZ (neg := true) w1 w2 p1 p2 hu) (nomark _)
theorem zt_eqP {rb : SD} (w1 : Vw s2 r x) (w2 : Vw s2 rb y) (ha : ZE X a s r s1) (hb : ZE X b s1 rb s2) (p1 : x.plain = true) (p2 : y.plain = true) (hu : X.A.units + min x.depth y.depth < cLine) : ZT X (.Compare a [.Eq] [b] pos) s (Is (PyData.eqv x y) s2) := zt_cmp op_eqZ ha hb (bi_eqZ (neg := false) w1 w2 p1 p2 hu) (nomark _)
theorem zt_neP {rb : SD} (w1 : Vw s2 r x) (w2 : Vw s2 rb y) (ha : ZE X a s r s1) (hb : ZE X b s1 rb s2) (p1 : x.plain = true) (p2 : y.plain = true) (hu : X.A.units + min x.depth y.depth < cLine) : ZT X (.Compare a [.NotEq] [b] pos) s (Is (!PyData.eqv x y) s2) := zt_cmp op_neZ ha hb (bi_eqZ (neg := true) w1 w2 p1 p2 hu) (nomark _)

theorem roomE {A : Around} (hu : A.units + 64 < cLine) (h : min x.depth y.depth ≤ 64) : A.units + min x.depth y.depth < cLine := by omega
theorem ce_int {i j : Int} {op : CmpOp} {pr : Int → Int → Bool} (h : ∀ {ta tb : TE}, PE X a ta → PE X b tb → PC X op a b (tCmp pr ta tb)) (ha : ZE X a s (.d (.int i)) s1) (hb : ZE X b s1 (.d (.int j)) s2) (hm : behindInMarks op b = false) : ZE X (.Compare a [op] [b] pos) s (.d (.bool (pr i j))) s2 := by
  refine PE.imp (pe_cmp (h ha hb) hm) fun σ H Q ⟨T, ρ, g, q⟩ => ?_
  exact ⟨T, ρ, g, fun v ρ' H' p vr g' => ⟨_, ρ', g', fun v2 ρ2 H2 p2 vr2 g2 => by
    have e1 := see_int (i := j) (v := v2) g2 List.mem_cons_self
    have e2 := see_int (i := i) (v := v) g2 (List.mem_cons_of_mem _ List.mem_cons_self)
    exact ⟨i, j, e2, e1, q _ ρ2 H2 (p.trans p2) trivial (g2.tdrop.tdrop.tflat (show flat (.bl _) (.bool _) from rfl))⟩⟩⟩
theorem ze_eqI {i j : Int} (ha : ZE X a s (.d (.int i)) s1) (hb : ZE X b s1 (.d (.int j)) s2) : ZE X (.Compare a [.Eq] [b] pos) s (.d (.bool (decide (i = j)))) s2 := ce_int (pr := fun i j => decide (i = j)) pc_eqI ha hb (nomark _)
theorem ze_neI {i j : Int} (ha : ZE X a s (.d (.int i)) s1) (hb : ZE X b s1 (.d (.int j)) s2) : ZE X (.Compare a [.NotEq] [b] pos) s (.d (.bool (!decide (i = j)))) s2 := ce_int (pr := fun i j => !decide (i = j)) pc_neI ha hb (nomark _)
theorem ct_int {i j : Int} {op : CmpOp} {pr : Int → Int → Bool} (h : ∀ {ta tb : TE}, PE X a ta → PE X b tb → PC X op a b (tCmp pr ta tb)) (ha : ZE X a s (.d (.int i)) s1) (hb : ZE X b s1 (.d (.int j)) s2) (hm : behindInMarks op b = false) : ZT X (.Compare a [op] [b] pos) s (Is (pr i j) s2) := by
  refine PT.imp (pt_cmp (h ha hb) hm) fun σ H Q ⟨T, ρ, g, q⟩ => ?_
  exact ⟨T, ρ, g, fun v ρ' H' p vr g' => ⟨_, ρ', g', fun v2 ρ2 H2 p2 vr2 g2 => by
    have e1 := see_int (i := j) (v := v2) g2 List.mem_cons_self
    have e2 := see_int (i := i) (v := v) g2 (List.mem_cons_of_mem _ List.mem_cons_self)
    exact ⟨i, j, e2, e1, _, rfl, q _ s2 ρ2 H2 ⟨rfl, rfl⟩ (p.trans p2) g2.tdrop.tdrop⟩⟩⟩
theorem zt_eqI {i j : Int} (ha : ZE X a s (.d (.int i)) s1) (hb : ZE X b s1 (.d (.int j)) s2) : ZT X (.Compare a [.Eq] [b] pos) s (Is (decide (i = j)) s2) := ct_int (pr := fun i j => decide (i = j)) pc_eqI ha hb (nomark _)
theorem zt_neI {i j : Int} (ha : ZE X a s (.d (.int i)) s1) (hb : ZE X b s1 (.d (.int j)) s2) : ZT X (.Compare a [.NotEq] [b] pos) s (Is (!decide (i = j)) s2) := ct_int (pr := fun i j => !decide (i = j)) pc_neI ha hb (nomark _)

/-! ### sorted -/
def srt (ds : List PyData) : List PyData := ds.mergeSort (PySem.W.dataLe false id)
def rSrt (K : PySem.W.Frag) (u : Nat) : List V → Hp → VK → Prop := fun vs H Q => ∃ a F xs ds, vs = [V.ref a] ∧ SqL K H a xs ∧ Ext F H ∧ DpAll K F xs ds ∧ PySem.W.AllAlike ds ∧ PySem.W.Sortable ds ∧ (∀ d ∈ ds, u + 2 + d.depth < cLine) ∧
  ∀ p ys, H p = none → DpAll K F ys (srt ds) → Q (.ref p) (upd H p (.lst ys))
theorem dps_zip {K : PySem.W.Frag} {F : Hp} : ∀ {xs : List V} {ds : List PyData}, DpAll K F xs ds → ∀ z ∈ xs.zip ds, Dp K F z.1 z.2
  | _, _, .nil, z, h => by cases h
  | _, _, .cons h1 h2, z, h => by
    rcases List.mem_cons.mp h with e | h
    · subst e; exact h1
    · exact dps_zip h2 z h
theorem dps_of_zip {K : PySem.W.Frag} {F : Hp} : ∀ {zs : List (V × PyData)}, (∀ z ∈ zs, Dp K F z.1 z.2) → DpAll K F (zs.map (·.1)) (zs.map (·.2))
  | [], _ => .nil
  | z :: zs, h => .cons (h z List.mem_cons_self) (dps_of_zip fun y hy => h y (List.mem_cons_of_mem _ hy))
theorem vals_zip : ∀ {xs : List V} {us : List Value} {ds : List PyData}, xs.length = ds.length → Vals xs us → PySem.W.EachIs (fun u (z : V × PyData) => RelV z.1 u) us (xs.zip ds)
  | _, _, [], h, .nil => .nil
  | _, _, _ :: _, h, .nil => by cases h
  | _, _, [], h, .cons _ _ => by cases h
  | _, _, d :: ds, h, .cons r t => .cons r (vals_zip (Nat.succ.inj h) t)
theorem zip_vals : ∀ {us : List Value} {zs : List (V × PyData)}, PySem.W.EachIs (fun u (z : V × PyData) => RelV z.1 u) us zs → Vals (zs.map (·.1)) us
  | _, _, .nil => .nil
  | _, _, .cons r t => .cons r (zip_vals t)
theorem snd_zip {α β : Type} : ∀ {xs : List α} {ys : List β}, xs.length = ys.length → (xs.zip ys).map (·.2) = ys
  | [], [], _ => rfl
  | _ :: _, [], h => by cases h
  | [], _ :: _, h => by cases h
  | x :: xs, y :: ys, h => by
    rw [List.zip_cons_cons, List.map_cons, snd_zip (Nat.succ.inj h)]
theorem each_imp {α β : Type} {R R' : α → β → Prop} : ∀ {as : List α} {bs : List β}, PySem.W.EachIs R as bs → (∀ a b, b ∈ bs → R a b → R' a b) → PySem.W.EachIs R' as bs
  | _, _, .nil, _ => .nil
  | _, _, .cons h t, k => .cons (k _ _ List.mem_cons_self h) (each_imp t fun a b hb => k a b (List.mem_cons_of_mem _ hb))
theorem cr_srt : CallR X (.builtin "sorted") (rSrt X.K X.A.units) := by
  intro pins s σ H vs us Q I r h
  obtain ⟨a, F, xs, ds, rfl, hs, hF, hd, al, so, hu, q⟩ := h
  obtain ⟨its, rv, hl, hz⟩ := I.list hs
  rw [Vals.ref1 r]
  have hlen := dpsLen hd
  have e := vals_zip (ds := ds) hlen rv
  have hsnd : (xs.zip ds).map (fun z => z.2) = ds := snd_zip hlen
  have er : PySem.W.EachIs (fun u (z : V × PyData) => ∃ as, Reads s.heap u z.2 as) its (xs.zip ds) := each_imp e fun u z hm hr => Dp.reads I z.2 z.1 u (dpUp hF _ _ (dps_zip hd z hm)) hr
  refine PySem.W.sorted_data (R := fun u (z : V × PyData) => RelV z.1 u) (enc := fun z : V × PyData => z.2) hl.isList e er (by rw [hsnd]; exact al) (by rw [hsnd]; exact so) ?_ (fun z hm => ?_) fun out ho eo => ?_
  · have h1 := congrArg List.length hsnd
    rw [List.length_map] at h1
    omega
  · exact hu _ (by rw [← hsnd]; exact List.mem_map.mpr ⟨z, hm, rfl⟩)
  · obtain ⟨ep, he'⟩ := PyProof.Rows.sortedAll_at s.heap its out.toArray
    have hl2 : (((xs.zip ds).mergeSort (PySem.W.dataLe false fun z => z.2)).map (·.1)).length ≤ sizeLine := by
      have h1 := congrArg List.length hsnd
      rw [List.length_map] at h1
      rw [List.length_map, List.length_mergeSort]
      omega
    refine ⟨.ref _, upd H (s.heap.objs.size + 1) (.lst (((xs.zip ds).mergeSort (PySem.W.dataLe false fun z => z.2)).map (·.1))), I.laid (t' := s.toks) (fun _ _ => PyProof.Rows.sortedAll_old) (Nat.le_succ _) ⟨hl2, out, ep, zip_vals eo, he'⟩, rfl, q _ _ (I.hok.fresh (Nat.le_succ _)) ?_⟩
    have h2 : srt ds = ((xs.zip ds).mergeSort (PySem.W.dataLe false fun z => z.2)).map (·.2) := by
      have h3 := List.map_mergeSort (r := PySem.W.dataLe false fun z : V × PyData => z.2) (s := PySem.W.dataLe false id) (f := fun z : V × PyData => z.2) (l := xs.zip ds) (fun _ _ _ _ => rfl)
      rw [hsnd] at h3
      exact h3.symm
    rw [h2]
    exact dps_of_zip fun z hm => dps_zip hd z ((List.mergeSort_perm _ _).mem_iff.mp hm)
theorem ze_sorted (w : Vw s1 r (.list ds)) (ha : ZA X [a] s [r] s1) (al : PySem.W.AllAlike ds) (so : PySem.W.Sortable ds) (hu : ∀ d ∈ ds, X.A.units + 2 + d.depth < cLine) (hm : X.mg "sorted" = none) (c : Cl X "sorted" a [] pos := by exact ⟨rfl, rfl, rfl⟩) : ZE X (.Call (.Name "sorted" p) [a] [] pos) s (.d (.list (srt ds))) s1 :=
  ze_callB cr_srt (by decide +kernel) ha hm c (ca1 fun u T σ ρ H Q g vr k => by
    obtain ⟨F, p, vs, e1, hs, hd, f⟩ := g.seeL List.mem_cons_self vr w
    subst e1
    exact ⟨p, F, vs, ds, rfl, hs, f.ext, hd, al, so, hu, fun l ys hl hy => k _ ρ _ (pre_refl ρ) trivial (g.out1 (f.lstD hy hl))⟩)
theorem srt_perm (ds : List PyData) : (srt ds).Perm ds := List.mergeSort_perm _ _
end
end Z

namespace Z
open PySem L2 PyProof.Rows

/-! ### own things by what may be done with them -/
/-- reading item i gives z; .. gives the reference c; so many items; setting item i; taking the first -/
def IxO (O : Own) (i : Int) (z : V) : Prop := ∀ K F H v fp, O.holds K F H v fp → ∃ a xs, v = .ref a ∧ H a = some (.lst xs) ∧ atI xs i = some z
def LenO (O : Own) (n : Nat) : Prop := ∀ K F H v fp, O.holds K F H v fp → ∃ a xs, v = .ref a ∧ H a = some (.lst xs) ∧ xs.length = n
def PutO (O : Own) (i : Int) (z : V) (O' : Own) : Prop := ∀ K F H v fp, O.holds K F H v fp → ∃ a xs j, v = .ref a ∧ a ∈ fp ∧ H a = some (.lst xs) ∧ ixN xs.length i = some j ∧ O'.holds K F (upd H a (.lst (xs.set j z))) v fp
def PopO (O : Own) (z : V) (O' : Own) : Prop := ∀ K F H v fp, O.holds K F H v fp → ∃ a xs, v = .ref a ∧ a ∈ fp ∧ H a = some (.lst xs) ∧ xs[0]? = some z ∧ O'.holds K F (upd H a (.lst (xs.eraseIdx 0))) v fp
section
variable {X : Cx} {e a b c : Expr} {es : List Expr} {st : Stmt} {rest body : List Stmt} {s s' s1 s2 s3 : S} {r : SD} {rs : List SD} {pos p : Pos} {P : Po} {x y : PyData} {i j : Int} {o n : Nat} {O O' : Own}
/-- an object of the store, to be changed -/
theorem Sat.mut {K : PySem.W.Frag} {σ : L2.St} {ρ : List V} {T : List En} {H : Hp} {v : V} (g : Sat K s σ ρ T H) (ho : s.R[o]? = some O) (hv : ρ[o]? = some v) :
    ∃ F fp, O.holds K F H v fp ∧ (∀ a ∈ fp, ∃ u, H a = some u) ∧ ∀ (Q : Own) (H' : Hp), Q.holds K F H' v fp → (∀ a u, a ∉ fp → H a = some u → H' a = some u) → (∀ a ∈ fp, ∃ u, H' a = some u) → Sat K ⟨s.e, s.R.set o Q⟩ σ ρ T H' := by
  obtain ⟨v', e2, ok, bk⟩ := g.obj ho
  have ev : v' = v := Option.some.inj (e2.symm.trans hv)
  subst ev
  obtain ⟨F, L, e1, g1⟩ := ok
  cases L with
  | nil => simp at e1
  | cons z L =>
    obtain ⟨z1, fp⟩ := z
    simp at e1
    obtain ⟨e3, e4⟩ := e1
    subst e3
    obtain ⟨u, e5, h0⟩ := g1.ent _ List.mem_cons_self
    have e5' : v' = u := Option.some.inj e5
    subst e5'
    exact ⟨F, fp, h0, fun a ha => (g1.own a (mem_fps.mpr ⟨_, List.mem_cons_self, ha⟩)).2, fun Q H' hq k t => bk _ _ ⟨F, (((IT.o Q, some v'), fp) :: L), by rw [List.map_cons, e4], g1.change hq k t⟩⟩
theorem bi_ixO {z : V} {d : PyData} (ho : s.R[o]? = some O) (h : IxO O i z) (f : flat z d) : Bi X.K (rIxL X.K) s (.r o) (.d (.int i)) (.d d) s := fun u w T σ ρ H Q g va vb k => by
  have e1 := see_int (i := i) (v := w) g List.mem_cons_self
  subst e1
  obtain ⟨F, fp, hh, _⟩ := g.mut ho va
  obtain ⟨a, xs, e1, e2, e3⟩ := h _ _ _ _ _ hh
  subst e1
  exact ⟨a, xs, i, z, rfl, rfl, .of e2, e3, k _ ρ H (pre_refl ρ) trivial (g.tdrop.tdrop.tflat f)⟩
theorem ze_ixO {z : V} {d : PyData} (ho : s2.R[o]? = some O) (h : IxO O i z) (f : flat z d) (ha : ZE X a s (.r o) s1) (hb : ZE X b s1 (.d (.int i)) s2) (hs : PlainIx b := by intro _ _; rfl) : ZE X (.Subscript a b pos) s (.d d) s2 :=
  PE.imp (pe_ix ix_list ha hb hs) (bi_run (bi_ixO ho h f))
/-- .. gives another object of the store -/
theorem ze_ixR {z : V} (ho : s2.R[o]? = some O) (h : IxO O i z) (hn : s2.R[n]? = some O') (h' : ∀ K F H v fp, O'.holds K F H v fp → v = z) (ha : ZE X a s (.r o) s1) (hb : ZE X b s1 (.d (.int i)) s2) (hs : PlainIx b := by intro _ _; rfl) : ZE X (.Subscript a b pos) s (.r n) s2 :=
  PE.imp (pe_ix ix_list ha hb hs) (bi_run fun u w T σ ρ H Q g va vb k => by
    have e1 := see_int (i := i) (v := w) g List.mem_cons_self
    subst e1
    obtain ⟨F, fp, hh, _⟩ := g.mut ho va
    obtain ⟨a, xs, e1, e2, e3⟩ := h _ _ _ _ _ hh
    subst e1
    obtain ⟨v, hv⟩ := get_of_len g.lr hn
    obtain ⟨F2, fp2, hh2, _⟩ := g.mut hn hv
    have ez := h' _ _ _ _ _ hh2
    subst ez
    exact ⟨a, xs, i, v, rfl, rfl, .of e2, e3, k _ ρ H (pre_refl ρ) hv g.tdrop.tdrop.tun⟩)
theorem ze_lenO (ho : s1.R[o]? = some O) (h : LenO O n) (ha : ZA X [a] s [.r o] s1) (hm : X.mg "len" = none) (c : Cl X "len" a [] pos := by exact ⟨rfl, rfl, rfl⟩) : ZE X (.Call (.Name "len" p) [a] [] pos) s (.d (.int (n : Nat))) s1 :=
  ze_callB call_len_seq (by decide +kernel) ha hm c (ca1 fun u T σ ρ H Q g vr k => by
    obtain ⟨F, fp, hh, _⟩ := g.mut ho vr
    obtain ⟨a, xs, e1, e2, e3⟩ := h _ _ _ _ _ hh
    subst e1 e3
    exact ⟨a, xs, rfl, .inl (.of e2), k _ ρ H (pre_refl ρ) trivial (g.tdrop.tflat (show flat (.int _) (.int _) from rfl))⟩)
/-- xs[i] = a flat value -/
theorem zss_putO {tpos : Pos} {z : V} {d : PyData} (h : PutO O i z O') (he : ZE X e s (.d d) s1) (ha : ZE X a s1 (.r o) s2) (hb : ZE X b s2 (.d (.int i)) s3) (ho : s3.R[o]? = some O) (f : ∀ {K : PySem.W.Frag} {H : Hp} {u : V}, Dp K H u d → u = z)
    (k : ZSs X rest ⟨s3.e, s3.R.set o O'⟩ P)
    (hsub : ∀ v, assign (.Subscript a b tpos) X.env v = (do
      let ov ← holding [v] (eval a X.env)
      let iv ← holding [v, ov] (eval b X.env)
      standAt tpos
      holding [v, ov, iv] (setItem ov iv v)
      release [v, ov, iv] []) := by intro _; rfl)
    (hs : swapsWithSole [.Subscript a b tpos] e pos.line X.env = pure false := by rfl) (hw : swappedStores [.Subscript a b tpos] e X.env = pure none := by rfl) (h1 : (assignEach [.Subscript a b tpos] X.env).map (·.2) = [assign (.Subscript a b tpos) X.env] := by rfl) :
    ZSs X (.Assign [.Subscript a b tpos] e pos :: rest) s P := by
  refine zss_seq (M := fun t => t = ⟨s3.e, s3.R.set o O'⟩) (PS.imp (ps_asg he (pg_sub ha hb set_list hsub) hs hw h1) fun D σ H ⟨t, T, ρ, e1, hb0, g, q⟩ => ?_) fun t e => by subst e; exact k
  subst e1
  refine ⟨T, ρ, g, fun v ρ1 H1 p1 vr1 g1 => ⟨_, ρ1, g1, fun u ρ2 H2 p2 vr2 g2 => ⟨_, ρ2, g2, fun w ρ3 H3 p3 vr3 g3 => ?_⟩⟩⟩
  have e1 := see_int (i := i) (v := w) g3 List.mem_cons_self
  subst e1
  have dv := g3.see (r := .d d) (v := v) (x := d) (List.mem_cons_of_mem _ (List.mem_cons_of_mem _ List.mem_cons_self)) trivial (.d _)
  have e2 := f dv
  subst e2
  obtain ⟨F, fp, hh, all, put⟩ := g3.mut ho (VR.mono (r := .r o) vr2 p3)
  obtain ⟨a, xs, j, e1, m, e2, e3, hq⟩ := h _ _ _ _ _ hh
  subst e1
  refine ⟨a, xs, i, j, rfl, rfl, e2, e3, q.nx _ σ ρ3 _ rfl ((List.take_prefix _ _).trans ((p1.trans p2).trans p3)) (put O' _ hq (fun b u hb hu => ?_) fun b hb => ?_).tdrop.tdrop.tdrop⟩
  · rw [upd_ne (fun z => hb (by rw [z]; exact m))]
    exact hu
  · by_cases eb : b = a
    · subst eb
      exact ⟨_, upd_same⟩
    · rw [upd_ne eb]; exact all b hb
/-- xs.pop(0) -/
theorem ze_popO {apos p2 : Pos} {z : V} {d : PyData} (ho : s2.R[o]? = some O) (h : PopO O z O') (f : flat z d) (ha : ZE X a s (.r o) s1) (he : ZA X [b] s1 [.d (.int 0)] s2) (h1 : ∀ K F H v fp, s1.R[o]? = some O → O.holds K F H v fp → ∃ a xs, v = .ref a ∧ H a = some (.lst xs)) (ho1 : s1.R[o]? = some O)
    (hne : starEach [b] X.env = (false, eval b X.env) :: starEach [] X.env := by rfl)
    (hbase : attributeBase a "pop" X.env (eval a X.env) = eval a X.env := by rfl)
    (hfew : ((backTo p2 (starEach (b :: []) X.env)).all (fun x => !x.1) && (backToKw p2 (keywordEach [] X.env)).all (fun x => x.1.isSome)
      && decide ((b :: ([] : List Expr)).length + ([] : List Keyword).length + (if ([] : List Keyword).isEmpty then 0 else 1) < 30)) = true := by rfl)
    (hline : (apos.endLine == p2.line) = true := by rfl) (hplain : (backTo p2 (starEach [] X.env)).any (·.1) = false := by rfl) :
    ZE X (.Call (.Attribute a "pop" apos) [b] [] p2) s (.d d) ⟨s2.e, s2.R.set o O'⟩ := by
  refine PE.imp (pe_bm PySem.F.plainAttrs_list PySem.F.slot_list_pop PySem.F.type_list_pop mt_popAt ha he hbase hfew hline hne hplain) fun σ H Q ⟨T, ρ, g, k⟩ => ⟨T, ρ, g, fun v ρ1 H1 p1 vr1 g1 => ?_⟩
  obtain ⟨F, fp, hh, _⟩ := g1.mut ho1 vr1
  obtain ⟨a1, xs1, e1, e2⟩ := h1 _ _ _ _ _ ho1 hh
  subst e1
  refine ⟨.inl ⟨rfl, _, .of e2⟩, _, ρ1, g1, fun vs ρ2 H2 p2 vr2 g2 => ?_⟩
  obtain ⟨v, e1, g3⟩ := vrs_one vr2 g2
  subst e1
  have e1 := see_int (i := 0) (v := v) g3 List.mem_cons_self
  subst e1
  obtain ⟨F, fp, hh, all, put⟩ := g3.mut ho (VR.mono (r := .r o) vr1 p2)
  obtain ⟨a, xs, e3, m, e4, e5, hq⟩ := h _ _ _ _ _ hh
  cases e3
  have hx : 0 < xs.length := (List.getElem?_eq_some_iff.mp e5).1
  refine ⟨_, xs, 0, 0, z, rfl, rfl, e4, by decide, by decide, by
    unfold seqIndex?
    simp
    exact fun e => by rw [e] at hx; exact Nat.lt_irrefl _ hx, e5, k z ρ2 _ (p1.trans p2) trivial ((put O' _ hq (fun b u hb hu => ?_) fun b hb => ?_).tdrop.tdrop.tflat f)⟩
  · rw [upd_ne (fun z => hb (by rw [z]; exact m))]
    exact hu
  · by_cases eb : b = a1
    · subst eb
      exact ⟨_, upd_same⟩
    · rw [upd_ne eb]; exact all b hb

/-! ### the box of a law -/
/-- a list that is known: its address, its values -/
def OA (a : Addr) (vs : List V) : Own where
  holds := fun K F H v fp => v = .ref a ∧ fp = [a] ∧ H a = some (.lst vs)
  stay := fun ⟨e1, e2, e3⟩ e k => ⟨e1, e2, k a (by rw [e2]; simp) _ e3⟩
structure Bx where
  cells : List Int
  x : Int
  y : Int
def OBox (b : Bx) : Own where
  holds := fun K F H v fp => ∃ p c, v = .ref p ∧ fp = [p, c] ∧ p ≠ c ∧ H p = some (.lst [.ref c, .int b.x, .int b.y]) ∧ H c = some (.lst (b.cells.map .int))
  stay := fun ⟨p, c, e1, e2, n, e3, e4⟩ e k => ⟨p, c, e1, e2, n, k p (by rw [e2]; simp) _ e3, k c (by rw [e2]; simp) _ e4⟩
theorem ix_box1 {b : Bx} : IxO (OBox b) 1 (.int b.x) := fun K F H v fp ⟨p, c, e1, e2, n, e3, e4⟩ => ⟨p, _, e1, e3, rfl⟩
theorem ix_box2 {b : Bx} : IxO (OBox b) 2 (.int b.y) := fun K F H v fp ⟨p, c, e1, e2, n, e3, e4⟩ => ⟨p, _, e1, e3, rfl⟩
theorem put_box1 {b : Bx} {z : Int} : PutO (OBox b) 1 (.int z) (OBox ⟨b.cells, z, b.y⟩) := fun K F H v fp ⟨p, c, e1, e2, n, e3, e4⟩ => ⟨p, _, 1, e1, by rw [e2]; simp, e3, rfl, p, c, e1, e2, n, upd_same, by rw [upd_ne n.symm]; exact e4⟩
theorem put_box2 {b : Bx} {z : Int} : PutO (OBox b) 2 (.int z) (OBox ⟨b.cells, b.x, z⟩) := fun K F H v fp ⟨p, c, e1, e2, n, e3, e4⟩ => ⟨p, _, 2, e1, by rw [e2]; simp, e3, rfl, p, c, e1, e2, n, upd_same, by rw [upd_ne n.symm]; exact e4⟩
theorem oa_is {a : Addr} {vs : List V} : ∀ K F H v fp, (OA a vs).holds K F H v fp → v = .ref a := fun K F H v fp ⟨e, _⟩ => e
theorem ix_oa {a : Addr} {vs : List V} {z : V} (h : atI vs i = some z) : IxO (OA a vs) i z := fun K F H v fp ⟨e1, e2, e3⟩ => ⟨a, vs, e1, e3, h⟩
theorem len_oa {a : Addr} {vs : List V} : LenO (OA a vs) vs.length := fun K F H v fp ⟨e1, e2, e3⟩ => ⟨a, vs, e1, e3, rfl⟩
theorem pop_oa {a : Addr} {vs : List V} {z : V} : PopO (OA a (z :: vs)) z (OA a vs) := fun K F H v fp ⟨e1, e2, e3⟩ => ⟨a, _, e1, by rw [e2]; simp, e3, rfl, e1, e2, upd_same⟩
/-- the box in two -/
theorem zss_open {b : Bx} (hb : s.R[o]? = some (OBox b)) (k : ∀ p c, ZSs X rest ⟨s.e, s.R.set o (OA p [.ref c, .int b.x, .int b.y]) ++ [OA c (b.cells.map .int)]⟩ P) : ZSs X rest s P :=
  ⟨fun pins sh σ H D I ⟨t, T, ρ, e1, hb0, g, q⟩ => by
    subst e1
    obtain ⟨v, e2, ok, bk⟩ := g.obj hb
    obtain ⟨F, L, e1, g1⟩ := ok
    cases L with
    | nil => simp at e1
    | cons z L =>
      obtain ⟨z1, fp⟩ := z
      simp at e1
      obtain ⟨e3, e4⟩ := e1
      subst e3
      obtain ⟨u, e5, p, c, h1, h2, h3, h4, h5⟩ := g1.ent _ List.mem_cons_self
      have e5' : v = u := Option.some.inj e5
      subst e5'
      subst h1
      have h2' : fp = [p, c] := h2
      subst h2'
      have nd := g1.nd
      unfold fpsOf at nd
      rw [List.flatMap_cons] at nd
      obtain ⟨n1, n2, n3⟩ := List.nodup_append.mp nd
      have own := g1.own
      unfold fpsOf at own
      rw [List.flatMap_cons] at own
      have a1 := g1.tail.oCons (v := .ref c) (P := OA c (b.cells.map .int)) (fp := [c]) ⟨rfl, rfl, h5⟩ (by simp) (fun a ha hx => n3 a (by simp at ha; simp [ha]) a hx rfl) fun a ha => own a (by simp at ha; simp [ha])
      have a2 := a1.oCons (v := .ref p) (P := OA p [.ref c, .int b.x, .int b.y]) (fp := [p]) ⟨rfl, rfl, h4⟩ (by simp) (fun a ha hx => by
        unfold fpsOf at hx
        rw [List.flatMap_cons] at hx
        rcases List.mem_append.mp hx with hx | hx
        · simp at ha hx; subst ha hx; exact h3 rfl
        · exact n3 a (by simp at ha; simp [ha]) a hx rfl) fun a ha => own a (by simp at ha; simp [ha])
      have a3 : OK X.K ((IT.o (OA p [.ref c, .int b.x, .int b.y]), some (V.ref p)) :: (((IT.o (OA c (b.cells.map .int)), some (V.ref c)) :: T) ++ (ES t.e σ ++ (RS t.R ρ).set o (IT.un, some (V.ref p))))) H := ⟨F, _, by rw [List.map_cons, List.map_cons, e4]; rfl, a2⟩
      have a4 := ZE.frz.back2 (T2 := (IT.o (OA c (b.cells.map .int)), some (V.ref c)) :: T) g hb e2 a3
      have a5 := Sat.push a4.ok a4.le a4.lr a4.al
      refine (k p c).run pins sh σ H D I ⟨_, T, ρ ++ [.ref c], rfl, by simp; omega, a5, ?_⟩
      rw [take_pre (List.prefix_append _ _) hb0]
      exact q⟩
/-- .. and in one again -/
theorem zss_close {b : Bx} {p c : Addr} {e' : List SD} {R : List Own} (hs : s = ⟨s.e, R ++ [OA c (b.cells.map .int)]⟩) (ho : R[o]? = some (OA p [.ref c, .int b.x, .int b.y])) (hb : P.b ≤ R.length) (w : wkE s.e e') (lw : low R.length e') (k : ZSs X rest ⟨e', R.set o (OBox b)⟩ P) : ZSs X rest s P :=
  ⟨fun pins sh σ H D I ⟨t, T, ρ, e1, hb0, g, q⟩ => by
    subst e1
    rw [hs] at g
    have lr := g.lr
    simp at lr
    obtain ⟨ρ0, v0, hρ⟩ : ∃ ρ0 v0, ρ = ρ0 ++ [v0] := ⟨ρ.take R.length, ρ[R.length]'(by omega), by
      conv => lhs; rw [← List.take_append_drop R.length ρ]
      congr 1
      rw [List.drop_eq_getElem_cons (by omega), List.drop_eq_nil_of_le (by omega)]⟩
    subst hρ
    have lr0 : R.length = ρ0.length := by simpa using lr
    have q1 : RS (R ++ [OA c (b.cells.map .int)]) (ρ0 ++ [v0]) = RS R ρ0 ++ [(IT.o (OA c (b.cells.map .int)), some v0)] := by
      unfold RS
      rw [List.zipWith_append lr0]
      rfl
    have ok := g.ok
    rw [show (⟨t.e, R ++ [OA c (b.cells.map .int)]⟩ : S).R = R ++ [OA c (b.cells.map .int)] from rfl, q1] at ok
    have ok1 : OK X.K (ES t.e σ ++ (((IT.o (OA c (b.cells.map .int)), some v0) :: T) ++ RS R ρ0)) H := by
      refine ok.perm ?_
      show (T ++ (ES t.e σ ++ (RS R ρ0 ++ [(IT.o (OA c (b.cells.map .int)), some v0)]))).Perm (ES t.e σ ++ ([(IT.o (OA c (b.cells.map .int)), some v0)] ++ T ++ RS R ρ0))
      simp only [List.append_assoc]
      refine (cas _ _ _).trans (List.Perm.append_left _ ?_)
      refine List.Perm.trans ?_ List.perm_append_comm
      rw [List.append_assoc]
    have g0 : Sat X.K ⟨e', R⟩ σ ρ0 ((IT.o (OA c (b.cells.map .int)), some v0) :: T) H := by
      refine ⟨(wkE_len w).trans g.le, lr0, fun i j he => ?_, ?_⟩
      · obtain ⟨a, ha, hor⟩ := wkE_get w he
        rcases hor with e | e
        · subst e
          obtain ⟨v, h1, h2⟩ := g.al i j ha
          exact ⟨v, h1, by rw [List.getElem?_append_left (by rw [← lr0]; exact low_get lw he)] at h2; exact h2⟩
        · cases e
      · refine (ok_es (l := ((IT.o (OA c (b.cells.map .int)), some v0) :: T) ++ RS R ρ0) w ok1).perm ?_
        exact cas _ _ _
    obtain ⟨v, e2, ok2, bk⟩ := g0.obj ho
    obtain ⟨F, L, e1, g1⟩ := ok2
    match L, e1, g1 with
    | (z1, fp) :: (z2, fp2) :: L, e1, g1 =>
      simp at e1
      obtain ⟨e3, e5, e4⟩ := e1
      subst e3 e5
      obtain ⟨u, e6, h1, h2, h3⟩ := g1.ent _ List.mem_cons_self
      obtain ⟨u2, e7, k1, k2, k3⟩ := g1.ent _ (List.mem_cons_of_mem _ List.mem_cons_self)
      have e6' : v = u := Option.some.inj e6
      subst e6'
      have e7' : v0 = u2 := Option.some.inj e7
      subst e7'
      have h2' : fp = [p] := h2
      have k2' : fp2 = [c] := k2
      subst h2' k2'
      have nd := g1.nd
      unfold fpsOf at nd
      rw [List.flatMap_cons, List.flatMap_cons] at nd
      have own := g1.own
      unfold fpsOf at own
      rw [List.flatMap_cons, List.flatMap_cons] at own
      obtain ⟨n1, n2, n3⟩ := List.nodup_append.mp nd
      obtain ⟨m1, m2, m3⟩ := List.nodup_append.mp n2
      have pc : p ≠ c := fun e => n3 p (by simp) c (by simp) e
      have a1 := g1.tail.tail.oCons (v := v) (P := OBox b) (fp := [p, c]) ⟨p, c, h1, rfl, pc, h3, k3⟩ (by simp [pc]) (fun a ha hx => by
        simp at ha
        rcases ha with rfl | rfl
        · exact n3 a (by simp) a (List.mem_append_right _ hx) rfl
        · exact m3 a (by simp) a hx rfl) fun a ha => own a (by
        simp at ha
        rcases ha with rfl | rfl <;> simp)
      have a2 : OK X.K ((IT.o (OBox b), some v) :: (T ++ (ES e' σ ++ (RS R ρ0).set o (IT.un, some v)))) H := ⟨F, _, by rw [List.map_cons, e4], a1⟩
      have a3 := ZE.frz.back2 (T2 := T) g0 ho e2 a2
      refine k.run pins sh σ H D I ⟨_, T, ρ0, rfl, by omega, a3, ?_⟩
      rw [take_pre (List.prefix_append ρ0 [v0]) (by omega)] at q
      exact q⟩
end
end Z

namespace Z
open PySem L2 PyProof.Rows
theorem obox_inj (K : PySem.W.Frag) {b b' : Bx} (h : OBox b = OBox b') : b = b' := by
  have h1 : (OBox b).holds K (fun _ => none) (fun a => if a = 0 then some (.lst [.ref 1, .int b.x, .int b.y]) else some (.lst (b.cells.map .int))) (.ref 0) [0, 1] := ⟨0, 1, rfl, rfl, by decide, rfl, rfl⟩
  rw [h] at h1
  obtain ⟨p, c, e1, e2, n, e3, e4⟩ := h1
  cases e1
  cases e2
  simp at e3 e4
  obtain ⟨e3, e5⟩ := e3
  have e6 : b.cells = b'.cells := by
    exact (List.map_inj_right (fun x y e => by cases e; rfl)).mp e4
  obtain ⟨x, y, z⟩ := b
  obtain ⟨x', y', z'⟩ := b'
  simp at e3 e5 e6
  rw [e3, e5, e6]
theorem flI (i : Int) : flat (.int i) (.int i) := rfl
theorem lt_of {n m : Nat} (h : Nat.ble (n + 1) m = true) : n < m := Nat.le_of_ble_eq_true h
def finB (cells : List Int) (x y : Int) : Int × Bx :=
  let first := (y * 48271 + 17) % 2147483629
  let second := (first * 69621 + 5) % 2147483587
  let z := (second * 40692 + 3) % 2147483563
  (first * 4611686014132420609 + second * 2147483647 + z, ⟨cells, x, z⟩)
def cellB (c : Int) : Int := if decide (0 ≤ c) = true then 2 * c else -2 * c - 1
def loadB (b : Bx) : Int × Bx := match b.cells with
  | c :: r => if decide (1000000000000000000 ≤ cellB c) = true then (cellB c, ⟨r, b.x, b.y⟩) else finB r b.x ((b.y * 69621 + cellB c * 48271 + 11) % 2147483647)
  | [] => finB [] b.x b.y
def drawB (b : Bx) (m : Int) : Int × Bx :=
  let b' : Bx := if b.x < m then ⟨(loadB b).2.cells, (loadB b).1, (loadB b).2.y⟩ else b
  (b'.x % m, ⟨b'.cells, b'.x / m, b'.y⟩)
structure BOK (b : Bx) : Prop where
  x : 0 ≤ b.x
  y : 0 ≤ b.y ∧ b.y < 2 ^ 31
  l : b.cells.length ≤ 63
theorem cell_pos (c : Int) : 0 ≤ cellB c := by unfold cellB; split <;> simp_all <;> omega
theorem fin_ok {cells : List Int} {x y : Int} (hx : 0 ≤ x) (hy : 0 ≤ y) (hl : cells.length ≤ 63) : 0 ≤ (finB cells x y).1 ∧ BOK (finB cells x y).2 := by
  unfold finB
  dsimp only
  generalize h1 : (y * 48271 + 17) % 2147483629 = f
  generalize h2 : (f * 69621 + 5) % 2147483587 = g
  generalize h3 : (g * 40692 + 3) % 2147483563 = z
  have z1 : 0 ≤ z := by omega
  have z2 : z < 2 ^ 31 := by omega
  exact ⟨by omega, hx, ⟨z1, z2⟩, hl⟩
theorem load_ok {b : Bx} (h : BOK b) : 0 ≤ (loadB b).1 ∧ BOK (loadB b).2 := by
  obtain ⟨hx, ⟨y1, y2⟩, hl⟩ := h
  unfold loadB
  cases hc : b.cells with
  | nil => exact fin_ok hx y1 (by simp)
  | cons c r =>
    rw [hc] at hl
    simp at hl
    have hp := cell_pos c
    dsimp only
    split
    · exact ⟨hp, hx, ⟨y1, y2⟩, by show r.length ≤ 63; omega⟩
    · exact fin_ok hx (by omega) (by omega)
theorem draw_ok {b : Bx} {m : Int} (h : BOK b) (hm : 0 < m) : (0 ≤ (drawB b m).1 ∧ (drawB b m).1 < m) ∧ BOK (drawB b m).2 := by
  unfold drawB
  dsimp only
  refine ⟨⟨Int.emod_nonneg _ (by omega), Int.emod_lt_of_pos _ hm⟩, ?_⟩
  split
  · obtain ⟨h1, h2⟩ := load_ok h
    exact ⟨Int.ediv_nonneg h1 (by omega), h2.y, h2.l⟩
  · exact ⟨Int.ediv_nonneg h.x (by omega), h.y, h.l⟩
def aBx : Bx → List IT := fun b => [.o (OBox b)]
def aDr : Bx × Int → List IT := fun z => [.o (OBox z.1), .d (.int z.2)]
def okDr : Bx × Int → Prop := fun z => BOK z.1 ∧ CDivW 0 z.2
abbrev rLoad : Bx → IT := fun b => .d (.int (loadB b).1)
abbrev oLoad : Bx → List Own := fun b => [OBox (loadB b).2]
abbrev rDraw : Bx × Int → IT := fun z => .d (.int (drawB z.1 z.2).1)
abbrev oDraw : Bx × Int → List Own := fun z => [OBox (drawB z.1 z.2).2]
def box0 (ns : List Int) : Bx := ⟨ns, 0, 4711 + (ns.length : Nat)⟩
theorem box0_ok {ns : List Int} (h : ns.length ≤ 63) : BOK (box0 ns) := ⟨Int.le_refl _, ⟨by show (0 : Int) ≤ 4711 + _; omega, by show (4711 : Int) + (ns.length : Nat) < 2 ^ 31; omega⟩, h⟩
end Z

namespace Z
open PySem L2 PyProof.Rows
section
variable {X : Cx} {e a b c : Expr} {es : List Expr} {s s1 s2 s3 : S} {r : SD} {rs : List SD} {pos p : Pos} {x : Str} {k j n : Nat} {pre : Pre} {rel : Rel} {ds as bs : List PyData} {zd : PyData} {O : Own}
/-- a call, of data alone, whose answer is a thing of its own -/
theorem ze_callR (c : Cal X.prog X.w X.K X.mg X.base k x pre rel) (ha : ZA X (e :: es) s (ds.map .d) s1) (hp : pre (ds.map .d)) (hq : ∀ z Os, rel (ds.map .d) z Os → z = .o O) (hr : Room j X.A) (hk : k ≤ j := by omega) (h : Cl X x e es pos := by exact ⟨rfl, rfl, rfl⟩)
    (hdb : (x == ("__debug__" : Str)) = false := by decide) : ZE X (.Call (.Name x p) (e :: es) [] pos) s (.r s1.R.length) ⟨s1.e, s1.R ++ [O]⟩ := by
  refine PE.imp (tcall c hr hk h ha hdb) fun σ H Q ⟨T, ρ, g, q⟩ => ⟨T, ρ, g, fun vs ρ' H' p vr g' => ?_⟩
  show spZ X.K pre rel (vs ++ []) H' Q E0
  rw [List.append_nil]
  have hl : (ds.map IT.d).length = vs.length := by have := vr.1; simpa using this
  refine ⟨ds.map .d, T ++ (ES s1.e σ ++ RS s1.R ρ'), hp, hl, ?_, fun z Os v H2 hz ok => ?_⟩
  · have k := g'.ok
    rw [its_ie, List.append_assoc] at k
    exact k
  · rw [hq z Os hz] at ok
    refine q v (ρ' ++ [v]) H2 (p.trans (List.prefix_append _ _)) g'.newVR (Sat.tun (Sat.push ?_ g'.le g'.lr g'.al))
    exact ((OK.perm (List.perm_append_comm) (show OK X.K (([(IT.o O, some v)] ++ ie (back (ds.map IT.d) Os) vs) ++ (T ++ (ES s1.e σ ++ RS s1.R ρ'))) H2 from by rw [List.append_assoc]; exact ok)).perm (by
      refine (List.perm_append_comm).trans ?_
      rw [List.append_assoc]
      exact cas _ _ _)).right
theorem ze_callSR {A : Type} {args : A → List IT} {ask : A → Prop} {res : A → IT} {outs : A → List Own} (y : A) (c : Cal X.prog X.w X.K X.mg X.base k x (preOf args ask) (relOf args ask res outs)) (ha : ZA X (e :: es) s rs s1) (hy : ask y) (hz : res y = .o O) (hr : Room j X.A) (hk : k ≤ j := by omega)
    (h1 : args y = (dsOf (args y)).map .d := by rfl) (h2 : rs = (dsOf (args y)).map .d := by rfl) (h : Cl X x e es pos := by exact ⟨rfl, rfl, rfl⟩) (hdb : (x == ("__debug__" : Str)) = false := by decide) : ZE X (.Call (.Name x p) (e :: es) [] pos) s (.r s1.R.length) ⟨s1.e, s1.R ++ [O]⟩ := by
  subst h2
  exact ze_callR (ds := dsOf (args y)) c ha ⟨y, hy, h1.symm⟩ (fun z Os hq => by rw [(hq y hy h1.symm).1, hz]) hr hk h hdb
/-- list(xs), of its own -/
theorem ze_listO (w : Vw s1 r (.list ds)) (ha : ZA X [a] s [r] s1) (hm : X.mg "list" = none) (c : Cl X "list" a [] pos := by exact ⟨rfl, rfl, rfl⟩) : ZE X (.Call (.Name "list" p) [a] [] pos) s (.r s1.R.length) ⟨s1.e, s1.R ++ [OL ds]⟩ :=
  ze_callT call_list_of (by decide +kernel) ha hm c (ca1 fun u T σ ρ H Q g vr k => by
    obtain ⟨F, p, vs, e1, hs, hd, f⟩ := g.seeL List.mem_cons_self vr w
    subst e1
    exact ⟨p, vs, rfl, .inl hs, fun l hl => k _ (ρ ++ [.ref l]) _ (List.prefix_append _ _) g.newVR (Sat.tun (g.push1 (f.lstO hd hl)))⟩)
theorem ze_listOT (w : Vw s1 r (.tuple ds)) (ha : ZA X [a] s [r] s1) (hm : X.mg "list" = none) (c : Cl X "list" a [] pos := by exact ⟨rfl, rfl, rfl⟩) : ZE X (.Call (.Name "list" p) [a] [] pos) s (.r s1.R.length) ⟨s1.e, s1.R ++ [OL ds]⟩ :=
  ze_callT call_list_of (by decide +kernel) ha hm c (ca1 fun u T σ ρ H Q g vr k => by
    obtain ⟨F, p, vs, e1, hs, hd, f⟩ := g.seeT List.mem_cons_self w
    subst e1
    exact ⟨p, vs, rfl, .inr hs, fun l hl => k _ (ρ ++ [.ref l]) _ (List.prefix_append _ _) g.newVR (Sat.tun (g.push1 (f.lstO hd hl)))⟩)
theorem dps_ints {K : PySem.W.Frag} {F : Hp} : ∀ {bs : List Int} {vs : List V}, DpAll K F vs (bs.map .int) → vs = bs.map V.int
  | [], _, h => by cases h; rfl
  | b :: bs, _, h => by
    cases h with
    | cons h1 h2 => cases h1; rw [dps_ints h2]; rfl
/-- [cells, x, y]: the box -/
theorem ze_boxD {ns : List Int} {i j : Int} {o : Nat} (h : ZA X es s [.r o, .d (.int i), .d (.int j)] s1) (ho : s1.R[o]? = some (OL (ns.map .int))) : ZE X (.List es pos) s (.r s1.R.length) ⟨s1.e, s1.R.set o gone ++ [OBox ⟨ns, i, j⟩]⟩ := by
  refine PE.imp (pe_lst h) fun σ H Q ⟨T, ρ, g, q⟩ => ⟨T, ρ, g, fun vs ρ1 H1 p1 vrs g1 => ?_⟩
  obtain ⟨h1, h2⟩ := vrs
  match vs, h1 with
  | [v0, v1, v2], _ =>
    have vr0 : ρ1[o]? = some v0 := h2 0 _ _ rfl rfl
    have e1 := see_int (i := i) (v := v1) g1 (List.mem_cons_of_mem _ List.mem_cons_self)
    have e2 := see_int (i := j) (v := v2) g1 (List.mem_cons_of_mem _ (List.mem_cons_of_mem _ List.mem_cons_self))
    subst e1 e2
    refine ⟨by show 3 ≤ sizeLine; decide, fun l hl => ?_⟩
    have g2 : Sat X.K s1 σ ρ1 T H1 := g1.tdrop.tdrop.tdrop
    obtain ⟨v', e2, ok, bk⟩ := g2.obj ho
    have ev : v' = v0 := Option.some.inj (e2.symm.trans vr0)
    subst ev
    obtain ⟨F, L, e1, f1⟩ := ok
    cases L with
    | nil => simp at e1
    | cons z L =>
      obtain ⟨z1, fp⟩ := z
      simp at e1
      obtain ⟨e3, e4⟩ := e1
      subst e3
      obtain ⟨u, e5, c, ws, k1, k2, k3, k4⟩ := f1.ent _ List.mem_cons_self
      have e5' : v' = u := Option.some.inj e5
      subst e5' k1
      have k2' : fp = [c] := k2
      subst k2'
      have ew := dps_ints k4
      subst ew
      have nlc : l ≠ c := fun e => by rw [e, k3] at hl; cases hl
      have fr := f1.fresh (o := .lst [.ref c, .int i, .int j]) hl
      have nd := f1.nd
      unfold fpsOf at nd
      rw [List.flatMap_cons] at nd
      obtain ⟨n1, n2, n3⟩ := List.nodup_append.mp nd
      have own := f1.own
      have nl : ∀ a ∈ fpsOf L, a ≠ l := fun a ha e => by
        obtain ⟨_, o, ho⟩ := own a (by unfold fpsOf; rw [List.flatMap_cons]; exact List.mem_append_right _ ha)
        rw [e, hl] at ho
        cases ho
      have a1 := fr.tail.oCons (v := .ref l) (P := OBox ⟨ns, i, j⟩) (fp := [l, c]) ⟨l, c, rfl, rfl, nlc, upd_same, by rw [upd_ne nlc.symm]; exact k3⟩ (by simp [nlc]) (fun a ha hx => by
        simp at ha
        rcases ha with rfl | rfl
        · exact nl a hx rfl
        · exact n3 a (by simp) a hx rfl) fun a ha => by
        simp at ha
        rcases ha with rfl | rfl
        · exact ⟨ext_none f1.ext hl, _, upd_same⟩
        · exact fr.own a (by unfold fpsOf; rw [List.flatMap_cons]; simp)
      have a2 : OK X.K ((IT.o (OBox ⟨ns, i, j⟩), some (V.ref l)) :: (T ++ (ES s1.e σ ++ (RS s1.R ρ1).set o (IT.un, some (V.ref c))))) (upd H1 l (.lst [.ref c, .int i, .int j])) := ⟨F, _, by rw [List.map_cons, e4], a1⟩
      obtain ⟨F3, L3, e6, f3⟩ := a2
      have a3 : OK X.K ((IT.o gone, some (V.ref c)) :: (((IT.o (OBox ⟨ns, i, j⟩), some (V.ref l)) :: T) ++ (ES s1.e σ ++ (RS s1.R ρ1).set o (IT.un, some (V.ref c))))) (upd H1 l (.lst [.ref c, .int i, .int j])) :=
        ⟨F3, (((IT.o gone, some (V.ref c)), []) :: L3), by rw [List.map_cons, e6]; rfl, f3.oCons (v := .ref c) (P := gone) (fp := []) rfl List.nodup_nil (fun a ha => by cases ha) (fun a ha => by cases ha)⟩
      have a4 := ZE.frz.back2 (T2 := (IT.o (OBox ⟨ns, i, j⟩), some (V.ref l)) :: T) g2 ho vr0 a3
      refine q _ (ρ1 ++ [.ref l]) _ (p1.trans (List.prefix_append _ _)) ?_ (Sat.tun (Sat.push a4.ok a4.le a4.lr a4.al))
      show (ρ1 ++ [V.ref l])[s1.R.length]? = _
      rw [g1.lr, List.getElem?_append_right (Nat.le_refl _), Nat.sub_self]
      rfl
end
theorem cut63 {ds : List PyData} (h : ds.length ≤ 63) : cut ds none (some 63) = ds := by
  unfold cut
  rw [show HT.sIx ds.length ds.length (some 63) = min 63 ds.length from HT.sIx_nat ds.length ds.length 63, HT.sIx_none]
  rw [List.drop_zero, Nat.sub_zero, Nat.min_eq_right h, List.take_length]
end Z

namespace Z
open PySem L2 PyProof.Rows
section
variable {X : Cx} {tg iter elt : Expr} {ifs : List Expr} {s s1 : S} {ds : List PyData} {pos : Pos}
/-- a comprehension whose turns leave the objects -/
theorem ze_lcP {scope : Scope} {own : List (Str × Nat)} {vs : List Nat} (f : PyData → PyData) (p : PyData → Bool) (hi : ZI X tg iter s ds s1)
    (turn : ∀ x, x ∈ ds → ∃ t', (∀ z, ZG (bl X scope z) tg vs x ⟨wipeE s1.e vs, s1.R⟩ t') ∧ t'.R = s1.R ∧ (∀ z, ZTs (bl X scope z) ifs t' (Is (p x) t')) ∧
      (p x = true → ∀ z, ZE (bl X scope z) elt t' (.d (f x)) t')) (hsz : ds.length < sizeLine) (hN : X.N.Nodup) (ok : BlkOk X.N X.env.scope scope own) (hvs : own.map (·.2) = vs := by rfl) (hc : X.calm = true := by rfl) (hs : ∀ x, foldedSetIterable iter X.env x = pure x := by intro _; rfl) :
    ZE X (.ListComp elt [⟨tg, iter, ifs, 0⟩] scope pos) s (.d (.list ((ds.filter p).map f))) s1 := by
  refine (show (⟨s1.e, s1.R⟩ : S) = s1 from rfl) ▸ ze_lcD (R0 := s1.R) hi (fun i acc R => acc = ((ds.take i).filter p).map f ∧ R = s1.R) ⟨by simp, rfl⟩ (fun i x acc R hx ⟨h1, h2⟩ => ?_) (fun acc R ⟨h1, h2⟩ => ⟨by rw [h1, List.take_length], h2⟩) hsz hN ok hvs hc hs
  subst h1 h2
  obtain ⟨t', a1, a2, a3, a4⟩ := turn x (List.mem_of_getElem? hx)
  have tk : ds.take (i + 1) = ds.take i ++ [x] := by rw [List.take_add_one, hx]; rfl
  refine ⟨t', Is (p x) t', a1, a3, fun t2 ⟨e1, e2⟩ => ⟨?_, by rw [e2, a2]⟩, fun t2 ⟨e1, e2⟩ => ?_⟩
  · rw [tk, List.filter_append, List.map_append]
    have : List.filter p [x] = [] := by simp [← e1]
    rw [this]
    simp
  · subst e2
    refine ⟨f x, t2, a4 e1.symm, ?_, a2⟩
    rw [tk, List.filter_append, List.map_append]
    have : List.filter p [x] = [x] := by simp [← e1]
    rw [this]
    rfl
theorem ze_lcM {scope : Scope} {own : List (Str × Nat)} {vs : List Nat} (f : PyData → PyData) (hi : ZI X tg iter s ds s1)
    (turn : ∀ x, x ∈ ds → ∃ t', (∀ z, ZG (bl X scope z) tg vs x ⟨wipeE s1.e vs, s1.R⟩ t') ∧ t'.R = s1.R ∧ ∀ z, ZE (bl X scope z) elt t' (.d (f x)) t') (hsz : ds.length < sizeLine) (hN : X.N.Nodup) (ok : BlkOk X.N X.env.scope scope own) (hvs : own.map (·.2) = vs := by rfl) (hc : X.calm = true := by rfl) (hs : ∀ x, foldedSetIterable iter X.env x = pure x := by intro _; rfl) :
    ZE X (.ListComp elt [⟨tg, iter, [], 0⟩] scope pos) s (.d (.list (ds.map f))) s1 := by
  have := ze_lcP (pos := pos) f (fun _ => true) hi (fun x hx => by
    obtain ⟨t', a1, a3, a4⟩ := turn x hx
    exact ⟨t', a1, a3, fun z => zts_nil, fun _ => a4⟩) hsz hN ok hvs hc hs
  rw [List.filter_eq_self.mpr (fun _ _ => rfl)] at this
  exact this
theorem rng_in {lo : Int} {n : Nat} {x : PyData} (h : x ∈ rng lo n) : ∃ k, k < n ∧ x = .int (lo + (k : Nat)) := by
  obtain ⟨k, h1, h2⟩ := List.mem_map.mp h
  exact ⟨k, by simpa using h1, h2.symm⟩
theorem rng_in0 {n : Nat} {x : PyData} (h : x ∈ rng 0 n) : ∃ k, k < n ∧ x = .int (k : Nat) := by
  obtain ⟨k, h1, h2⟩ := rng_in h
  exact ⟨k, h1, by rw [h2, Int.zero_add]⟩
theorem rng_map {n : Nat} {lo : Int} : rng lo n = (List.range n).map fun k => .int (lo + (k : Nat)) := rfl
end

/-! ### the same -/
mutual
def same : PyData → PyData → Bool
  | .tuple xs, .tuple ys => xs.length == ys.length && sames xs ys
  | .list xs, .list ys => xs.length == ys.length && sames xs ys
  | .bool a, .bool b => a == b
  | .int a, .int b => a == b
  | .str a, .str b => a == b
  | .none, .none => true
  | _, _ => false
def sames : List PyData → List PyData → Bool
  | x :: xs, y :: ys => same x y && sames xs ys
  | _, _ => true
end
mutual
/-- no dict, no row that is too long -/
def nar : PyData → Bool
  | .tuple xs => decide (xs.length < sizeLine) && nars xs
  | .list xs => decide (xs.length < sizeLine) && nars xs
  | .dict _ => false
  | _ => true
def nars : List PyData → Bool
  | [] => true
  | x :: xs => nar x && nars xs
end
mutual
theorem same_refl : ∀ x, nar x = true → same x x = true
  | .tuple xs, h => by
    simp only [nar, Bool.and_eq_true] at h
    simp only [same, beq_self_eq_true, Bool.true_and]
    exact sames_refl xs h.2
  | .list xs, h => by
    simp only [nar, Bool.and_eq_true] at h
    simp only [same, beq_self_eq_true, Bool.true_and]
    exact sames_refl xs h.2
  | .bool _, _ => by simp [same]
  | .int _, _ => by simp [same]
  | .str _, _ => by simp [same]
  | .none, _ => by simp [same]
  | .dict _, h => by simp [nar] at h
theorem sames_refl : ∀ xs, nars xs = true → sames xs xs = true
  | [], _ => by simp [sames]
  | x :: xs, h => by
    simp only [nars, Bool.and_eq_true] at h
    simp only [sames, same_refl x h.1, sames_refl xs h.2, Bool.and_self]
end
mutual
theorem same_eq : ∀ x y, same x y = true → x = y
  | .tuple xs, .tuple ys, h => by
    simp only [same, Bool.and_eq_true, beq_iff_eq] at h
    rw [sames_eq xs ys h.1 h.2]
  | .list xs, .list ys, h => by
    simp only [same, Bool.and_eq_true, beq_iff_eq] at h
    rw [sames_eq xs ys h.1 h.2]
  | .bool _, .bool _, h => by simpa [same] using h
  | .int _, .int _, h => by simpa [same] using h
  | .str _, .str _, h => by simpa [same] using h
  | .none, .none, _ => rfl
  | .tuple _, .list _, h | .tuple _, .bool _, h | .tuple _, .int _, h | .tuple _, .str _, h | .tuple _, .none, h | .tuple _, .dict _, h
  | .list _, .tuple _, h | .list _, .bool _, h | .list _, .int _, h | .list _, .str _, h | .list _, .none, h | .list _, .dict _, h
  | .bool _, .tuple _, h | .bool _, .list _, h | .bool _, .int _, h | .bool _, .str _, h | .bool _, .none, h | .bool _, .dict _, h
  | .int _, .tuple _, h | .int _, .list _, h | .int _, .bool _, h | .int _, .str _, h | .int _, .none, h | .int _, .dict _, h
  | .str _, .tuple _, h | .str _, .list _, h | .str _, .bool _, h | .str _, .int _, h | .str _, .none, h | .str _, .dict _, h
  | .none, .tuple _, h | .none, .list _, h | .none, .bool _, h | .none, .int _, h | .none, .str _, h | .none, .dict _, h
  | .dict _, .tuple _, h | .dict _, .list _, h | .dict _, .bool _, h | .dict _, .int _, h | .dict _, .str _, h | .dict _, .none, h | .dict _, .dict _, h => by simp [same] at h
theorem sames_eq : ∀ xs ys, xs.length = ys.length → sames xs ys = true → xs = ys
  | [], [], _, _ => rfl
  | [], _ :: _, h, _ => by simp at h
  | _ :: _, [], h, _ => by simp at h
  | x :: xs, y :: ys, h, k => by
    simp only [sames, Bool.and_eq_true] at k
    rw [same_eq x y k.1, sames_eq xs ys (by simpa using h) k.2]
end
theorem same_iff {x y : PyData} (h : nar x = true) : same x y = decide (x = y) := by
  by_cases e : x = y
  · subst e
    rw [same_refl x h, decide_eq_true rfl]
  · rw [decide_eq_false e]
    cases q : same x y with
    | false => rfl
    | true => exact absurd (same_eq x y q) e
theorem nars_get : ∀ {xs : List PyData} {i : Nat} {x : PyData}, nars xs = true → xs[i]? = some x → nar x = true
  | _ :: _, 0, _, h, e => by
    simp only [nars, Bool.and_eq_true] at h
    simp at e
    subst e
    exact h.1
  | _ :: _, i + 1, _, h, e => by
    simp only [nars, Bool.and_eq_true] at h
    exact nars_get h.2 (by simpa using e)
theorem deps_get : ∀ {xs : List PyData} {i : Nat} {x : PyData}, xs[i]? = some x → x.depth ≤ PyData.depthAll xs
  | _ :: _, 0, _, e => by
    simp at e
    subst e
    simp only [PyData.depthAll]
    omega
  | _ :: xs, i + 1, _, e => by
    have := deps_get (xs := xs) (i := i) (by simpa using e)
    simp only [PyData.depthAll]
    omega
theorem sames_all : ∀ (xs ys : List PyData), xs.length = ys.length → sames xs ys = ((List.range xs.length).map fun k => same (xs.getD k .none) (ys.getD k .none)).all id
  | [], [], _ => by simp [sames]
  | [], _ :: _, h => by simp at h
  | _ :: _, [], h => by simp at h
  | x :: xs, y :: ys, h => by
    rw [List.length_cons, List.range_succ_eq_map, List.map_cons, List.all_cons, List.map_map]
    simp only [sames]
    rw [sames_all xs ys (by simpa using h)]
    rfl
def smAt (xs ys : List PyData) (x : PyData) : PyData := match x with
  | .int k => .bool (same (xs.getD k.toNat .none) (ys.getD k.toNat .none))
  | _ => .none
theorem smAt_rng {xs ys : List PyData} (h : xs.length = ys.length) : ∃ bs : List Bool, (rng 0 xs.length).map (smAt xs ys) = bs.map .bool ∧ bs.all id = sames xs ys := by
  refine ⟨(List.range xs.length).map fun k => same (xs.getD k .none) (ys.getD k .none), ?_, (sames_all xs ys h).symm⟩
  unfold rng
  rw [List.map_map, List.map_map]
  refine List.map_congr_left fun k hk => ?_
  show smAt xs ys (.int (0 + (k : Nat))) = _
  unfold smAt
  simp
def aSm : PyData × PyData → List IT := fun z => [.d z.1, .d z.2]
def okSm (n : Nat) : PyData × PyData → Prop := fun z => nar z.1 = true ∧ nar z.2 = true ∧ min z.1.depth z.2.depth ≤ n
abbrev rSm : PyData × PyData → IT := fun z => .d (.bool (same z.1 z.2))
end Z

namespace Z
open PySem L2 PyProof.Rows
section
variable {X : Cx} {e a b c tg iter elt : Expr} {es ifs : List Expr} {st : Stmt} {rest body : List Stmt} {s s' s1 s2 s3 : S} {r r1 r2 r3 : SD} {rs : List SD} {pos p : Pos} {P : Po} {ds : List PyData}
/-- name = [comprehension], the name a local: kept for good, or of its own -/
theorem zss_setLcD {scope : Scope} {own : List (Str × Nat)} {vs : List Nat} {acc0 : List PyData} {R0 : List Own} {y : Str} {py spos : Pos} (i : Nat) (hi : ZI X tg iter s ds s1) (Iv : Nat → List PyData → List Own → Prop) (h0 : Iv 0 [] s1.R)
    (turn : ∀ i x acc R, ds[i]? = some x → Iv i acc R → ∃ t' Rt, (∀ z, ZG (bl X scope z) tg vs x ⟨wipeE s1.e vs, R⟩ t') ∧ (∀ z, ZTs (bl X scope z) ifs t' Rt) ∧ (∀ t2, Rt false t2 → Iv (i + 1) acc t2.R) ∧
      ∀ t2, Rt true t2 → ∃ y t3, (∀ z, ZE (bl X scope z) elt t2 (.d y) t3) ∧ Iv (i + 1) (acc ++ [y]) t3.R)
    (done : ∀ acc R, Iv ds.length acc R → acc = acc0 ∧ R = R0) (hsz : ds.length < sizeLine) (hN : X.N.Nodup) (ok : BlkOk X.N X.env.scope scope own) (hil : i < s1.e.length) (k : ZSs X rest ⟨s1.e.set i (.d (.list acc0)), R0⟩ P) (hvs : own.map (·.2) = vs := by rfl) (hc : X.calm = true := by rfl) (hs : ∀ x, foldedSetIterable iter X.env x = pure x := by intro _; rfl)
    (hy : X.N[i]? = some y := by rfl) (hyl : X.env.scope.names.lookup y = some .local := by rfl) (hsw : swapsWith (.ListComp elt [⟨tg, iter, ifs, 0⟩] scope pos) (some (.Name y py)) spos.line X.env = pure true := by rfl) :
    ZSs X (.Assign [.Name y py] (.ListComp elt [⟨tg, iter, ifs, 0⟩] scope pos) spos :: rest) s P := by
  obtain ⟨te, ⟨_, h⟩, run⟩ := lc_run (pos := pos) hvs Iv h0 turn hsz hi hN hc ok hs
  refine zss_seq (M := fun t => t = ⟨s1.e.set i (.d (.list acc0)), R0⟩) (PS.imp (h i y py spos hy hyl hsw) fun D σ H ⟨t, T, ρ, e1, hb, g, q⟩ => ?_) fun t e => by subst e; exact k
  subst e1
  refine run T σ ρ H _ g fun acc R ρ' D' H' iv p g' => ?_
  obtain ⟨e1, e2⟩ := done acc R iv
  subst e1 e2
  obtain ⟨F, f⟩ := g'.ok.fz
  have g2 : Sat X.K ⟨s1.e, R⟩ σ ρ' ((itOf (.d (.list acc)), some (.ref D')) :: T) H' := ⟨g'.le, g'.lr, g'.al, f.freeze⟩
  exact q.nx _ (σ.set i (some (.ref D'))) ρ' H' rfl ((List.take_prefix _ _).trans p) (Sat.put (s := ⟨s1.e, R⟩) (r := .d (.list acc)) hil trivial g2)
theorem zss_setLcO {scope : Scope} {own : List (Str × Nat)} {vs : List Nat} {acc0 : List PyData} {R0 : List Own} {y : Str} {py spos : Pos} (i : Nat) (hi : ZI X tg iter s ds s1) (Iv : Nat → List PyData → List Own → Prop) (h0 : Iv 0 [] s1.R)
    (turn : ∀ i x acc R, ds[i]? = some x → Iv i acc R → ∃ t' Rt, (∀ z, ZG (bl X scope z) tg vs x ⟨wipeE s1.e vs, R⟩ t') ∧ (∀ z, ZTs (bl X scope z) ifs t' Rt) ∧ (∀ t2, Rt false t2 → Iv (i + 1) acc t2.R) ∧
      ∀ t2, Rt true t2 → ∃ y t3, (∀ z, ZE (bl X scope z) elt t2 (.d y) t3) ∧ Iv (i + 1) (acc ++ [y]) t3.R)
    (done : ∀ acc R, Iv ds.length acc R → acc = acc0 ∧ R = R0) (hsz : ds.length < sizeLine) (hN : X.N.Nodup) (ok : BlkOk X.N X.env.scope scope own) (hil : i < s1.e.length) (k : ZSs X rest ⟨s1.e.set i (.r R0.length), R0 ++ [OL acc0]⟩ P) (hvs : own.map (·.2) = vs := by rfl) (hc : X.calm = true := by rfl) (hs : ∀ x, foldedSetIterable iter X.env x = pure x := by intro _; rfl)
    (hy : X.N[i]? = some y := by rfl) (hyl : X.env.scope.names.lookup y = some .local := by rfl) (hsw : swapsWith (.ListComp elt [⟨tg, iter, ifs, 0⟩] scope pos) (some (.Name y py)) spos.line X.env = pure true := by rfl) :
    ZSs X (.Assign [.Name y py] (.ListComp elt [⟨tg, iter, ifs, 0⟩] scope pos) spos :: rest) s P := by
  obtain ⟨te, ⟨_, h⟩, run⟩ := lc_run (pos := pos) hvs Iv h0 turn hsz hi hN hc ok hs
  refine zss_seq (M := fun t => t = ⟨s1.e.set i (.r R0.length), R0 ++ [OL acc0]⟩) (PS.imp (h i y py spos hy hyl hsw) fun D σ H ⟨t, T, ρ, e1, hb, g, q⟩ => ?_) fun t e => by subst e; exact k
  subst e1
  refine run T σ ρ H _ g fun acc R ρ' D' H' iv p g' => ?_
  obtain ⟨e1, e2⟩ := done acc R iv
  subst e1 e2
  have g2 : Sat X.K ⟨s1.e, R ++ [OL acc]⟩ σ (ρ' ++ [.ref D']) T H' := Sat.push (s := ⟨s1.e, R⟩) g'.ok g'.le g'.lr g'.al
  exact q.nx _ (σ.set i (some (.ref D'))) _ H' rfl ((List.take_prefix _ _).trans (p.trans (List.prefix_append _ _))) (Sat.put (s := ⟨s1.e, R ++ [OL acc]⟩) (r := .r R.length) hil (Sat.newVR (s := ⟨s1.e, R⟩) g') g2.tun)
/-- turns that leave the objects -/
theorem zss_setLcP {scope : Scope} {own : List (Str × Nat)} {vs : List Nat} {y : Str} {py spos : Pos} (i : Nat) (f : PyData → PyData) (pr : PyData → Bool) (hi : ZI X tg iter s ds s1)
    (turn : ∀ x, x ∈ ds → ∃ t', (∀ z, ZG (bl X scope z) tg vs x ⟨wipeE s1.e vs, s1.R⟩ t') ∧ t'.R = s1.R ∧ (∀ z, ZTs (bl X scope z) ifs t' (Is (pr x) t')) ∧ (pr x = true → ∀ z, ZE (bl X scope z) elt t' (.d (f x)) t')) (hsz : ds.length < sizeLine) (hN : X.N.Nodup) (ok : BlkOk X.N X.env.scope scope own)
    (hil : i < s1.e.length) (k : ZSs X rest ⟨s1.e.set i (.d (.list ((ds.filter pr).map f))), s1.R⟩ P) (hvs : own.map (·.2) = vs := by rfl) (hc : X.calm = true := by rfl) (hs : ∀ x, foldedSetIterable iter X.env x = pure x := by intro _; rfl)
    (hy : X.N[i]? = some y := by rfl) (hyl : X.env.scope.names.lookup y = some .local := by rfl) (hsw : swapsWith (.ListComp elt [⟨tg, iter, ifs, 0⟩] scope pos) (some (.Name y py)) spos.line X.env = pure true := by rfl) :
    ZSs X (.Assign [.Name y py] (.ListComp elt [⟨tg, iter, ifs, 0⟩] scope pos) spos :: rest) s P := by
  refine zss_setLcD (R0 := s1.R) i hi (fun i acc R => acc = ((ds.take i).filter pr).map f ∧ R = s1.R) ⟨by simp, rfl⟩ (fun i x acc R hx ⟨h1, h2⟩ => ?_) (fun acc R ⟨h1, h2⟩ => ⟨by rw [h1, List.take_length], h2⟩) hsz hN ok hil k hvs hc hs hy hyl hsw
  subst h1 h2
  obtain ⟨t', a1, a2, a3, a4⟩ := turn x (List.mem_of_getElem? hx)
  have tk : ds.take (i + 1) = ds.take i ++ [x] := by rw [List.take_add_one, hx]; rfl
  refine ⟨t', Is (pr x) t', a1, a3, fun t2 ⟨e1, e2⟩ => ⟨?_, by rw [e2, a2]⟩, fun t2 ⟨e1, e2⟩ => ?_⟩
  · rw [tk, List.filter_append, List.map_append]
    have : List.filter pr [x] = [] := by simp [← e1]
    rw [this]
    simp
  · subst e2
    refine ⟨f x, t2, a4 e1.symm, ?_, a2⟩
    rw [tk, List.filter_append, List.map_append]
    have : List.filter pr [x] = [x] := by simp [← e1]
    rw [this]
    rfl
/-- a, b = x, y -/
theorem zss_par2 {x y : Str} {px py pt pt2 : Pos} {kt k2 : Nat} (i j : Nat) (ha : ZA X [a, b] s [r1, r2] s1) (hi : i < s1.e.length) (hj : j < s1.e.length) (k : ZSs X rest ⟨(s1.e.set i r1).set j r2, s1.R⟩ P) (hN : X.N.Nodup) (hij : i ≠ j := by decide) (hc : X.calm = true := by rfl) (hx : X.N[i]? = some x := by rfl) (hy : X.N[j]? = some y := by rfl)
    (hlx : X.env.scope.names.lookup x = some .local := by rfl) (hly : X.env.scope.names.lookup y = some .local := by rfl)
    (hw : swappedStores [.Tuple [.Name x px, .Name y py] kt pt] (.Tuple [a, b] k2 pt2) X.env = pure (some [x, y]) := by rfl) (hs : swapsWithSole [.Tuple [.Name x px, .Name y py] kt pt] (.Tuple [a, b] k2 pt2) pos.line X.env = pure false := by rfl) :
    ZSs X (.Assign [.Tuple [.Name x px, .Name y py] kt pt] (.Tuple [a, b] k2 pt2) pos :: rest) s P := by
  refine zss_seq (M := fun t => t = ⟨(s1.e.set i r1).set j r2, s1.R⟩) (PS.imp (ps_par hc hN hx hy hij hlx hly ha hw hs) fun D σ H ⟨t, T, ρ, e1, hb, g, q⟩ => ?_) fun t e => by subst e; exact k
  subst e1
  refine ⟨T, ρ, g, fun vs ρ' H' p vr g' => ?_⟩
  obtain ⟨v, w, e1, h1, h2⟩ := vrs2 vr
  subst e1
  have g1 : Sat X.K ⟨s1.e.set i r1, s1.R⟩ (σ.set i (some v)) ρ' ((itOf r2, some w) :: T) H' := Sat.put hi h1 g'
  have g2 : Sat X.K ⟨(s1.e.set i r1).set j r2, s1.R⟩ ((σ.set i (some v)).set j (some w)) ρ' T H' := Sat.put (s := ⟨s1.e.set i r1, s1.R⟩) (by simpa using hj) h2 g1
  exact ⟨v, w, rfl, q.nx _ _ ρ' H' rfl ((List.take_prefix _ _).trans p) g2⟩
theorem vrs3 {ρ : List V} {us : List V} (h : VRs [r1, r2, r3] ρ us) : ∃ u v w, us = [u, v, w] ∧ VR r1 ρ u ∧ VR r2 ρ v ∧ VR r3 ρ w := by
  obtain ⟨h1, h2⟩ := h
  match us, h1 with
  | [u, v, w], _ => exact ⟨u, v, w, rfl, h2 0 _ u rfl rfl, h2 1 _ v rfl rfl, h2 2 _ w rfl rfl⟩
theorem zss_par3 {x y z : Str} {px py pz pt pt2 : Pos} {kt k2 : Nat} (i j l : Nat) (ha : ZA X [a, b, c] s [r1, r2, r3] s1) (hi : i < s1.e.length) (hj : j < s1.e.length) (hl : l < s1.e.length) (k : ZSs X rest ⟨((s1.e.set i r1).set j r2).set l r3, s1.R⟩ P) (hN : X.N.Nodup) (hij : i ≠ j := by decide) (hil : i ≠ l := by decide) (hjl : j ≠ l := by decide) (hc : X.calm = true := by rfl) (hx : X.N[i]? = some x := by rfl) (hy : X.N[j]? = some y := by rfl) (hz : X.N[l]? = some z := by rfl)
    (hlx : X.env.scope.names.lookup x = some .local := by rfl) (hly : X.env.scope.names.lookup y = some .local := by rfl) (hlz : X.env.scope.names.lookup z = some .local := by rfl)
    (hw : swappedStores [.Tuple [.Name x px, .Name y py, .Name z pz] kt pt] (.Tuple [a, b, c] k2 pt2) X.env = pure (some [x, y, z]) := by rfl) (hs : swapsWithSole [.Tuple [.Name x px, .Name y py, .Name z pz] kt pt] (.Tuple [a, b, c] k2 pt2) pos.line X.env = pure false := by rfl) :
    ZSs X (.Assign [.Tuple [.Name x px, .Name y py, .Name z pz] kt pt] (.Tuple [a, b, c] k2 pt2) pos :: rest) s P := by
  refine zss_seq (M := fun t => t = ⟨((s1.e.set i r1).set j r2).set l r3, s1.R⟩) (PS.imp (ps_par3 hc hN hx hy hz hij hil hjl hlx hly hlz ha hw hs) fun D σ H ⟨t, T, ρ, e1, hb, g, q⟩ => ?_) fun t e => by subst e; exact k
  subst e1
  refine ⟨T, ρ, g, fun vs ρ' H' p vr g' => ?_⟩
  obtain ⟨u, v, w, e1, h1, h2, h3⟩ := vrs3 vr
  subst e1
  have g1 : Sat X.K ⟨s1.e.set i r1, s1.R⟩ (σ.set i (some u)) ρ' ((itOf r2, some v) :: (itOf r3, some w) :: T) H' := Sat.put hi h1 g'
  have g2 : Sat X.K ⟨(s1.e.set i r1).set j r2, s1.R⟩ ((σ.set i (some u)).set j (some v)) ρ' ((itOf r3, some w) :: T) H' := Sat.put (s := ⟨s1.e.set i r1, s1.R⟩) (by simpa using hj) h2 g1
  have g3 : Sat X.K ⟨((s1.e.set i r1).set j r2).set l r3, s1.R⟩ (((σ.set i (some u)).set j (some v)).set l (some w)) ρ' T H' := Sat.put (s := ⟨(s1.e.set i r1).set j r2, s1.R⟩) (by simpa using hl) h3 g2
  exact ⟨u, v, w, rfl, q.nx _ _ ρ' H' rfl ((List.take_prefix _ _).trans p) g3⟩
/-- a, b = a tuple; any target -/
theorem zss_asg {vs : List Nat} {x : PyData} (he : ZE X e s (.d x) s1) (hg : ZG X tg vs x s1 s2) (k : ZSs X rest s2 P) (hs : swapsWithSole [tg] e pos.line X.env = pure false := by rfl) (hw : swappedStores [tg] e X.env = pure none := by rfl) (h1 : (assignEach [tg] X.env).map (·.2) = [assign tg X.env] := by rfl) :
    ZSs X (.Assign [tg] e pos :: rest) s P :=
  zss_seq (M := fun t => t = s2) (PS.imp (ps_asg he hg hs hw h1) fun D σ H ⟨t, T, ρ, e1, hb, g, q⟩ => by
    subst e1
    exact ⟨T, ρ, g, fun v ρ' H' p vr g' => ⟨T, ρ', g', fun σ' o g2 => q.nx _ σ' ρ' H' rfl ((List.take_prefix _ _).trans p) g2⟩⟩) fun t e => by subst e; exact k
/-- x += an int, x -= an int -/
theorem zss_aug {op : Operator} {f : Int → Int → Int} {x : Str} {p' : Pos} (ho : PIp X op (ipI f)) (i : Nat) {u w : Int} (hu : s1.e[i]? = some (.d (.int u))) (hu0 : s.e[i]? = some (.d (.int u))) (h : ZE X e s (.d (.int w)) s1) (k : ZSs X rest ⟨s1.e.set i (.d (.int (f u w))), s1.R⟩ P) (hN : X.N.Nodup) (hx : X.N[i]? = some x := by rfl) (hl : Loc X.env.scope x := by first | exact .inl rfl | exact .inr rfl)
    (hf : X.fn x = true ∨ X.env.scope.names.lookup x = some .local := by first | exact .inl rfl | exact .inr rfl) : ZSs X (.AugAssign (.Name x p') op e pos :: rest) s P :=
  zss_seq (M := fun t => t = ⟨s1.e.set i (.d (.int (f u w))), s1.R⟩) (PS.imp (ps_aug hN hx hl h ho hf) fun D σ H ⟨t, T, ρ, e1, hb, g, q⟩ => by
    subst e1
    obtain ⟨v0, h0, g0⟩ := g.slot hu0
    have ev := see_int (i := u) (v := v0) g0 List.mem_cons_self
    subst ev
    refine ⟨_, h0, T, ρ, g, fun v ρ' H' p vr g' => ?_⟩
    have ew := see_int (i := w) (v := v) g' List.mem_cons_self
    subst ew
    refine ⟨u, w, rfl, rfl, q.nx _ _ ρ' H' rfl ((List.take_prefix _ _).trans p) (Sat.put (r := .d (.int (f u w))) (List.getElem?_eq_some_iff.mp hu).1 trivial (g'.tdrop.tflat (show flat (.int _) (.int _) from rfl)))⟩) fun t e => by subst e; exact k
end
end Z

namespace HT
open PySem PySem.Spec PyProof.Rows
section
variable {prog : Program} {w : World} {A : Around} {E : Value → Shared → Prop} {s : Shared}
theorem places_rev (n : Nat) : Builtin.Slice.slicePlaces ((n : Int) - 1) (-1) (-1) = n := by
  unfold Builtin.Slice.slicePlaces
  rw [if_neg (by decide)]
  by_cases h : (n : Int) - 1 > -1
  · rw [if_pos h]
    have : (((n : Int) - 1) - (-1) - 1) / (- -1) + 1 = n := by
      rw [show (- (-1 : Int)) = 1 from rfl, Int.ediv_one]
      omega
    rw [this]
    simp
  · rw [if_neg h]
    simp
    omega
theorem sliceApplied_rev {sl : Addr} {vl vu vs : Value} {n : Nat} {Q : Int × Int × Nat → Shared → Prop} (hs : s.heap.IsSliceOf sl vl vu vs) (pl : IsPart vl none) (pu : IsPart vu none) (ps : IsPart vs (some (-1)))
    (h : Q ((n : Int) - 1, -1, n) s) : wpAny (model prog w) A (Builtin.Slice.sliceApplied (.ref sl) (pure (n : Int))) Q E s := by
  obtain ⟨os, hos, hcs, hds⟩ := id hs
  unfold Builtin.Slice.sliceApplied Builtin.Slice.sliceFields
  refine wpAny_bind (wpAny_bind (wpAny_field hos hds (x := vl) rfl (wpAny_bind (wpAny_field hos hds (x := vu) rfl (wpAny_bind (wpAny_field hos hds (x := vs) rfl (wpAny_pure ?_)))))))
  refine wpAny_bind (slicePart_ ps ?_)
  show wpAny _ _ (if ((-1 : Int) == 0) = true then _ else _) _ _ s
  rw [if_neg (by decide)]
  refine wpAny_bind (slicePart_ pl (wpAny_bind (slicePart_ pu (wpAny_bind (wpAny_pure ?_)))))
  show wpAny _ _ (pure ((n : Int) - 1, (-1 : Int), Builtin.Slice.slicePlaces ((n : Int) - 1) (-1) (-1))) _ _ s
  rw [places_rev]
  exact wpAny_pure h
theorem fm_congr {α β : Type} {f g : α → Option β} : ∀ {l : List α}, (∀ x ∈ l, f x = g x) → l.filterMap f = l.filterMap g
  | [], _ => rfl
  | x :: l, h => by
    rw [List.filterMap_cons, List.filterMap_cons, h x List.mem_cons_self, fm_congr fun y hy => h y (List.mem_cons_of_mem _ hy)]
theorem pick_rev (xs : Array Value) : ((List.range xs.size).filterMap fun (m : Nat) => xs[(((xs.size : Int) - 1) + (m : Int) * (-1)).toNat]?).toArray = xs.toList.reverse.toArray := by
  congr 1
  have h1 : ∀ (l : List Value), ((List.range l.length).filterMap fun (m : Nat) => l[(((l.length : Int) - 1) + (m : Int) * (-1)).toNat]?) = l.reverse := by
    intro l
    have h2 : ∀ m ∈ List.range l.length, l[(((l.length : Int) - 1) + (m : Int) * (-1)).toNat]? = l.reverse[m]? := fun m hm => by
      have hm : m < l.length := by simpa using hm
      rw [List.getElem?_reverse hm]
      congr 1
      omega
    rw [fm_congr h2]
    have h3 : ∀ (r : List Value), (List.range r.length).filterMap (fun m => r[m]?) = r := by
      intro r
      induction r with
      | nil => rfl
      | cons a r ih =>
        rw [List.length_cons, List.range_succ_eq_map, List.filterMap_cons]
        simp only [List.getElem?_cons_zero, List.filterMap_map]
        congr 1
    have := h3 l.reverse
    rw [List.length_reverse] at this
    exact this
  have := h1 xs.toList
  simpa using this
theorem getItem_tuple_rev {t sl : Addr} {items : Array Value} {vl vu vs : Value} {Q : Value → Shared → Prop} (ht : IsTup s.heap t items) (hs : s.heap.IsSliceOf sl vl vu vs) (pl : IsPart vl none) (pu : IsPart vu none) (ps : IsPart vs (some (-1)))
    (h : Q (.ref s.heap.objs.size) { s with heap := s.heap.push { cls := .type "tuple", data := .seq items.toList.reverse.toArray } })
    (hsz : items.size ≤ sizeLine) : wpAny (model prog w) A (getItem (.ref t) (.ref sl)) Q E s := by
  have htake : sizeOk (.seq items.toList.reverse.toArray) := by
    show items.toList.reverse.toArray.size ≤ sizeLine
    rw [List.size_toArray, List.length_reverse, Array.length_toList]
    exact hsz
  obtain ⟨os, hos, hcs, hds⟩ := id hs
  have hTs : s.TypeIs (.ref sl) "slice" := ⟨os, hos, hcs⟩
  unfold getItem
  try with_reducible refine wpAny_holding ?_
  first | refine wpAny_bind (wpAny_pure ?_) | skip
  refine wpAny_bind (wpAny_sequenceKey ht.typeIs (by decide) ?_)
  refine wpAny_bind (wpAny_callSpecial?_slot (name := Str.ofString "__getitem__") ht.typeIs PyProof.Rows.slot_tuple_getitem
    (wpAny_call_entry PyProof.Rows.slot_tuple_getitem ht.typeIs entry_tuple_getitem ?_ (args_tuple_getitem _ _)))
  show wpAny _ _ (Builtin.Tuple.tupleItemsOf (.ref t) >>= _) _ _ s
  refine wpAny_bind (tupleItemsOf_ ht ?_)
  refine wpAny_bind (wpAny_typeOf hTs ?_)
  rw [if_pos (by decide)]
  refine wpAny_bind (sliceApplied_rev hs pl pu ps ?_)
  have hno : ¬ ((((items.size : Int) - 1) == 0 && (-1 : Int) == 1 && items.size == items.size) = true) := by
    intro q
    rw [Bool.and_eq_true, Bool.and_eq_true] at q
    exact absurd q.1.2 (by decide)
  show wpAny _ _ (if (((items.size : Int) - 1) == 0 && (-1 : Int) == 1 && items.size == items.size) = true then _ else _) _ _ s
  rw [if_neg hno, pick_rev]
  first
    | exact wpAny_bind (m := Builtin.Tuple.tupleExact _) (wpAny_newObj_type (wpAny_pure ⟨_, rfl, wpAny_pure h⟩) htake)
    | exact wpAny_bind (m := Builtin.Tuple.tupleExact _) (wpAny_newObj_type (wpAny_bind (wpAny_pure (wpAny_pure ⟨_, rfl, wpAny_pure h⟩))) htake)
    | exact wpAny_bind (wpAny_bind (m := Builtin.Tuple.tupleExact _) (wpAny_newObj_type (wpAny_pure (wpAny_pure ⟨_, rfl, wpAny_pure h⟩)) htake))
    | exact wpAny_bind (wpAny_bind (m := Builtin.Tuple.tupleExact _) (wpAny_newObj_type (wpAny_pure ⟨_, rfl, wpAny_pure h⟩) htake))
end
end HT
namespace Z
open PySem L2 PyProof.Rows
def tRevT (K : PySem.W.Frag) (te : TE) : TE := fun σ H Q => te σ H fun x H1 => ∃ a xs, x = .ref a ∧ SqT K H1 a xs ∧ ∀ p, H1 p = none → Q (.ref p) (upd H1 p (.tup xs.reverse))
section
variable {X : Cx} {a : Expr} {s s1 : S} {r : SD} {ds : List PyData}
theorem pe_revT {e : Expr} {te : TE} {k : Nat} {p1 p2 p3 pos : Pos} (he : PE X e te) : PE X (.Subscript e (.Slice none none (some (.UnaryOp .USub (.Constant (.int 1) k p1) p2)) p3) pos) (tRevT X.K te) := by
  refine ⟨fun pins s σ H Q I h => ?_⟩
  refine Subscript_ (thn (he.run pins s σ H _ I h) fun v s1 ⟨x, H1, I1, r1, q1⟩ => ?_)
  obtain ⟨a, xs, ex, hx, q⟩ := q1
  subst ex
  cases r1
  have hst : PO X (some (.UnaryOp .USub (.Constant (.int 1) k p1) p2)) (tPart (tUn (rU fun i => .int (-i)) (tC (.int 1)))) := po_some (pe_un un_neg pe_int)
  refine wpAny_Slice (thn (po_none.run pins s1 σ H1 (fun o H2 => o = none ∧ H2 = H1) I1 ⟨rfl, rfl⟩) fun vl s2 ⟨l, H2, I2, pl, el, e2⟩ => ?_)
  subst el e2
  refine thn (po_none.run pins s2 σ H2 (fun o H3 => o = none ∧ H3 = H2) I2 ⟨rfl, rfl⟩) fun vu s3 ⟨u, H3, I3, pu, eu, e3⟩ => ?_
  subst eu e3
  refine thn (hst.run pins s3 σ H3 (fun o H4 => o = some (-1) ∧ H4 = H3) I3 ⟨1, rfl, -1, rfl, rfl, rfl⟩) fun vs s4 ⟨o, H4, I4, ps, eo, e4⟩ => ?_
  subst eo e4
  have I5 : Inv X pins σ H4 { s4 with heap := s4.heap.push { cls := .type "slice", data := .fields #[vl, vu, vs] } } := I4.kept (t' := s4.toks) fun b ob q => Heap.get?_push_of_some _ q
  obtain ⟨its, r, ht, hz⟩ := I5.tuple hx
  have hlen := r.length
  show wpAny (model X.prog X.w) X.A (subscriptTail e (.Slice none none (some (.UnaryOp .USub (.Constant (.int 1) k p1) p2)) p3) (.ref a) (.ref s4.heap.objs.size)) (EP X pins σ Q) X.xe { s4 with heap := s4.heap.push { cls := .type "slice", data := .fields #[vl, vu, vs] } }
  refine tail_any (ops := [.ref a, .ref s4.heap.objs.size]) ht.typeIs (PyProof.Rows.slot_tuple_getitem.lookup) ?_ (by with_unfolding_all rfl)
  refine HT.getItem_tuple_rev ht (Heap.IsSliceOf.new _ vl vu vs) pl pu ps ?_ (by rw [List.size_toArray]; omega)
  refine ⟨.ref _, _, I5.laid (t' := s4.toks) (o := .tup xs.reverse) (fun b ob q => Heap.get?_push_of_some _ q) (Nat.le_refl _) ?_, rfl, q _ (I5.hok.fresh (Nat.le_refl _))⟩
  exact ⟨by rw [List.length_reverse]; exact hz, _, r.reverse, IsTup.new _ _⟩
theorem ze_revT {k : Nat} {p1 p2 p3 pos : Pos} (w : Vw s1 r (.tuple ds)) (ha : ZE X a s r s1) : ZE X (.Subscript a (.Slice none none (some (.UnaryOp .USub (.Constant (.int 1) k p1) p2)) p3) pos) s (.d (.tuple ds.reverse)) s1 :=
  PE.imp (pe_revT ha) fun σ H Q ⟨T, ρ, g, k⟩ => ⟨T, ρ, g, fun v ρ1 H1 p1 vr1 g1 => by
    obtain ⟨F, p, vs, e1, hs, hd, f⟩ := g1.seeT List.mem_cons_self w
    subst e1
    exact ⟨p, vs, rfl, hs, fun q hq => k _ ρ1 _ p1 trivial (g1.out1 (f.tup (dpsRev hd) hq))⟩⟩
theorem ze_revL {k : Nat} {p1 p2 p3 pos : Pos} (w : Vw s1 r (.list ds)) (ha : ZE X a s r s1) : ZE X (.Subscript a (.Slice none none (some (.UnaryOp .USub (.Constant (.int 1) k p1) p2)) p3) pos) s (.d (.list ds.reverse)) s1 :=
  PE.imp (pe_revL ha) fun σ H Q ⟨T, ρ, g, k⟩ => ⟨T, ρ, g, fun v ρ1 H1 p1 vr1 g1 => by
    obtain ⟨F, p, vs, e1, hs, hd, f⟩ := g1.seeL List.mem_cons_self vr1 w
    subst e1
    exact ⟨p, vs, rfl, hs, fun q hq => k _ ρ1 _ p1 trivial (g1.out1 (f.lstD (dpsRev hd) hq))⟩⟩
variable {b : Expr} {s2 : S} {i j : Int} {pos : Pos}
theorem ze_pow (hc : CPow i j) (ha : ZE X a s (.d (.int i)) s1) (hb : ZE X b s1 (.d (.int j)) s2) : ZE X (.BinOp a .Pow b pos) s (.d (.int (i ^ j.toNat))) s2 := ze_op op_pow ha hb (bi_intC hc (show flat (.int _) (.int _) from rfl))
end
end Z

namespace Z
open PySem L2 PyProof.Rows
theorem draw_ex {b : Bx} {m : Int} (h : BOK b) (hm : 0 < m) : ∃ d b', drawB b m = (d, b') ∧ 0 ≤ d ∧ d < m ∧ BOK b' :=
  let ⟨⟨h1, h2⟩, h3⟩ := draw_ok h hm
  ⟨_, _, rfl, h1, h2, h3⟩
theorem dr_ok {b : Bx} {m : Int} (h : BOK b) (hm : 0 < m) (h2 : m.natAbs < 2 ^ 200) : okDr (b, m) := ⟨h, hm, PySem.Flt.log2_lt_of (by decide) (Nat.lt_of_lt_of_le h2 (Nat.pow_le_pow_right (by decide) (by decide)))⟩
theorem roomS {A : Around} {d : PyData} (hu : A.units + 64 < cLine) (h : d.depth ≤ 60) : A.units + 2 + d.depth < cLine := by omega
section
variable {X : Cx} {x1 x2 e : Expr} {s s1 s' : S} {p pos : Pos} {o k j : Nat} {b b' : Bx} {m d : Int} {kk kk' : Bool}
theorem ze_draw (c : Cal X.prog X.w X.K X.mg X.base k "_law_draw" (preOf aDr okDr) (relOf aDr okDr rDraw oDraw)) (e : drawB b m = (d, b')) (ha : ZA X [x1, x2] s [.r o, .d (.int m)] s1) (ho : s1.R[o]? = some (OBox b)) (hb : BOK b) (hr : Room j X.A) (hm : 0 < m := by decide) (h2 : m.natAbs < 2 ^ 200 := by decide) (hk : k ≤ j := by omega)
    (h : Cl X "_law_draw" x1 [x2] pos := by exact ⟨rfl, rfl, rfl⟩) : ZE X (.Call (.Name "_law_draw" p) [x1, x2] [] pos) s (.d (.int d)) ⟨s1.e, s1.R.set o (OBox b')⟩ := by
  have := ze_callS1 (p := p) (b, m) c ha (dr_ok hb hm h2) ho rfl rfl hr hk rfl rfl h (by decide)
  rw [e] at this
  exact this
theorem zt_k (h : ZT X e s (Is kk s')) (q : kk = kk') : ZT X e s (Is kk' s') := by subst q; exact h
theorem ZE.i {i i' : Int} (h : ZE X e s (.d (.int i)) s') (q : i = i') : ZE X e s (.d (.int i')) s' := by subst q; exact h
theorem ZE.x {i i' : PyData} (h : ZE X e s (.d i) s') (q : i = i') : ZE X e s (.d i') s' := by subst q; exact h
end
end Z

namespace Z
open PySem L2 PyProof.Rows
section
variable {P : Program} {w : World} {K : PySem.W.Frag} {mg : Str → Option Value} {base : Heap} {x : Str} {st : Stmt} {ps N : List Str} {k : Nat}
theorem fn_dfn {f : Addr} {od an : Option Addr} {sl : Array (Option Value)} {oc kV dc pm cd ct : Value} {h : Heap} (X : K.In h) (G : h.Ns PySem.mainGlobals mg)
    (a : PySem.W.nsIn K PySem.mainGlobals x = some (some (.ref f))) (l : K.lookup f = some ⟨oc, od, .func (PySem.W.fnOf x x (defArgs st) (defBody st) (defScope st) .none kV dc pm an cd ct), sl⟩) (c : PySem.W.codeIn K cd x = true) (q : PySem.W.keepIn K (.ref f) = true)
    (b : ∀ (kV doc pm : Value) (an : Option Addr) (cdv ct : Value) (us : List Value), us.length = ps.length → bindArgs (PySem.W.fnOf x x (defArgs st) (defBody st) (defScope st) .none kV doc pm an cdv ct) ⟨us, []⟩ = pure (ps.zip us)) : Dfn K mg x st ps := by
  have F := fun_mk (st := st) l c q
  exact ⟨f, _, F, PySem.W.mg_of X G a, F.binds b⟩
theorem bl_of {F H : Hp} {v : V} {T : List En} {b : Bool} (h : OK K ((IT.d (.bool b), some v) :: T) H) : v = .bl b := by
  obtain ⟨F, f⟩ := h.fz
  obtain ⟨u, e, d⟩ := f.at List.mem_cons_self
  cases e
  cases d
  rfl
def aSc0 : List Int → List IT := fun ns => [.d (.list (ns.map .int))]
theorem dps_of_ints (K : PySem.W.Frag) (F : Hp) : ∀ ns : List Int, DpAll K F (ns.map V.int) (ns.map .int)
  | [] => .nil
  | n :: ns => .cons (.int n) (dps_of_ints K F ns)
/-- the law's head -/
def spL (K : PySem.W.Frag) : Sp := spZ K (preOf aSc0 (fun ns => ns.length ≤ 63)) (relOf aSc0 (fun ns => ns.length ≤ 63) (fun _ => .d (.bool true)) (fun _ => []))
theorem head_ok {H : Hp} {a : Addr} {ns : List Int} (hl : ns.length ≤ 63) (hS : SqL K H a (ns.map V.int)) : spL K [.ref a] H (fun v _ => v = .bl true) fun _ _ _ => False := by
  refine ⟨aSc0 ns, [], ⟨ns, hl, rfl⟩, rfl, ⟨H, [((.d (.list (ns.map .int)), some (.ref a)), [])], rfl, Ext.refl H, fun x hx => ?_, by simp [fpsOf], fun b hb => by simp [fpsOf] at hb⟩, fun z Os v H' hz ok => ?_⟩
  · have e : x = ((.d (.list (ns.map .int)), some (.ref a)), []) := by simpa using hx
    subst e
    exact ⟨rfl, _, rfl, .lst hS (dps_of_ints K H ns)⟩
  · obtain ⟨e, _⟩ := hz ns hl rfl
    subst e
    exact bl_of (F := H) ok
/-- a law by its Cal -/
theorem law_fn {f : Addr} {fd : FuncData} (F : Fun K x x st f fd) (hm : mg x = some (.ref f)) (S : FnScope N ["script"] (defScope st))
    (body : ∀ (f : Addr) (cdv : Value) (Ar : Around) (outer : List Env) (s : Shared) (H : Hp) (E : XK) (ns : List Int), ns.length ≤ 63 → Room k (Ar.deeper (envOfC x (defScope st) s.heap.objs.size f cdv)) →
      ZSs (cxOf CX0 P w K mg base N x (defScope st) f cdv Ar outer s H E).nox (defBody st) (inSt (aSc0 ns) (N.length - 1)) (poS 0 (.d (.bool true)) [])) : FnOk P w K mg base CX0 (k + 1) f fd ["script"] (spL K) := by
  refine F.ok S (fun vs H Q E h => ?_) (fun cdv A outer s H vs Q E hr h => ?_)
  · obtain ⟨ds, T, ⟨ns, _, e⟩, b, _⟩ := h
    subst e
    rw [← b]
    rfl
  · obtain ⟨ds, T, ⟨ns, hn, e⟩, b, c, d⟩ := h
    subst e
    refine run_body (X := (cxOf CX0 P w K mg base N x (defScope st) f cdv A outer s H E).nox) (N := N) rfl b c d ?_
    have e : vs.length = 1 := by rw [← b]; rfl
    rw [e]
    refine PSs.wk (body f cdv A outer s H E ns hn hr) rfl (fun t ⟨h1, h2⟩ => ?_) (fun r t h => ?_) (fun _ z => z) (fun _ z => z)
    · cases h1
    · cases r with
      | un => exact h
      | d v =>
        obtain ⟨h1, h2⟩ := h
        intro z hz e
        exact ⟨h1.symm, h2⟩
      | r j =>
        obtain ⟨hb, h, h2⟩ := h
        rcases h with ⟨O, hO, h1⟩ | ⟨es, hO, h1⟩ <;> cases h1
end
end Z

namespace K67
def absI (i : Int) : Int := if i < 0 then -i else i
def qv (a b : Int) : Int := absI (a * a - b * b) / (a * b)
theorem absI_neg (i : Int) : absI (-i) = absI i := by unfold absI; split <;> split <;> omega
theorem absI_nonneg (i : Int) : 0 ≤ absI i := by unfold absI; split <;> omega
theorem absI_of {i : Int} (h : 0 ≤ i) : absI i = i := by unfold absI; rw [if_neg (by omega)]
theorem qv_comm (a b : Int) : qv a b = qv b a := by
  unfold qv
  rw [show a * a - b * b = -(b * b - a * a) by omega, absI_neg, Int.mul_comm a b]
theorem sq_le {a b : Int} (hb : 0 < b) (h : b ≤ a) : b * b ≤ a * a := Int.mul_le_mul h h (by omega) (by omega)
theorem qv_of {a b n : Int} (hb : 0 < b) (h : b ≤ a) (h1 : n * (a * b) ≤ a * a - b * b) (h2 : a * a - b * b < (n + 1) * (a * b)) : qv a b = n := by
  have hp : 0 < a * b := Int.mul_pos (by omega) hb
  have hs := sq_le hb h
  unfold qv
  rw [absI_of (by omega)]
  have h3 := (Int.le_ediv_iff_mul_le hp).mpr h1
  have h4 := (Int.ediv_lt_iff_lt_mul hp).mpr h2
  omega
theorem qv_spec {a b : Int} (hb : 0 < b) (h : b ≤ a) : qv a b * (a * b) ≤ a * a - b * b ∧ a * a - b * b < (qv a b + 1) * (a * b) ∧ 0 ≤ qv a b := by
  have hp : 0 < a * b := Int.mul_pos (by omega) hb
  have hs := sq_le hb h
  unfold qv
  rw [absI_of (by omega)]
  refine ⟨(Int.le_ediv_iff_mul_le hp).mp (Int.le_refl _), (Int.ediv_lt_iff_lt_mul hp).mp (by omega), Int.ediv_nonneg (by omega) (by omega)⟩
theorem qv_mul {t a b : Int} (ht : 0 < t) (ha : 0 < a) (hb : 0 < b) : qv (t * a) (t * b) = qv a b := by
  have key : ∀ {a b : Int}, 0 < b → b ≤ a → qv (t * a) (t * b) = qv a b := fun {a b} hb h => by
    obtain ⟨h1, h2, h3⟩ := qv_spec hb h
    have tt : 0 < t * t := Int.mul_pos ht ht
    refine qv_of (Int.mul_pos ht hb) (Int.mul_le_mul_of_nonneg_left h (by omega)) ?_ ?_
    · have := Int.mul_le_mul_of_nonneg_left h1 (show 0 ≤ t * t by omega)
      grind
    · have := Int.mul_lt_mul_of_pos_left h2 tt
      grind
  rcases Int.le_total b a with h | h
  · exact key hb h
  · rw [qv_comm, key ha h, qv_comm]
/-- r (j b + r) against b b -/
theorem qv_top {r b j : Int} (hr : 0 < r) (hrb : r ≤ b) (hj : 1 ≤ j) : qv (j * b + r) b = if b * b ≤ r * (j * b + r) then j else j - 1 := by
  have hb : 0 < b := by omega
  have h1 : b ≤ j * b := by have := Int.mul_le_mul_of_nonneg_right hj (show 0 ≤ b by omega); omega
  have h2 : 0 ≤ (j * b + r) * (b - r) := Int.mul_nonneg (by omega) (by omega)
  have h3 : 0 < b * b := Int.mul_pos hb hb
  split
  · refine qv_of hb (by omega) (by grind) (by grind)
  · have h4 : 0 ≤ (j * b) * b - b * b := by have := Int.mul_le_mul_of_nonneg_right h1 (show 0 ≤ b by omega); omega
    have h5 : 0 ≤ r * b := Int.mul_nonneg (by omega) (by omega)
    have h6 : 0 ≤ (j * b) * r := Int.mul_nonneg (by omega) (by omega)
    have h7 : 0 < r * r := Int.mul_pos hr hr
    have e1 : (j * b + r) * (j * b + r) - b * b - (j - 1) * ((j * b + r) * b) = r * (j * b) + r * r + (j * b) * b + r * b - b * b := by grind
    have e2 : r * (j * b) = (j * b) * r := Int.mul_comm _ _
    have e3 : (j * b + r) * (j * b + r) - b * b = (j * b + r) * (j * b) + r * (j * b + r) - b * b := by grind
    have e4 : (j - 1 + 1) * ((j * b + r) * b) = (j * b + r) * (j * b) := by grind
    refine qv_of hb (by omega) (by omega) (by omega)
/-- the square of b is no r (n b + r), but for r = b -/
theorem no_root : ∀ (k : Nat) (r b n : Int), r.toNat ≤ k → 0 < r → r < b → 0 ≤ n → b * b = r * (n * b + r) → False
  | 0, r, b, n, hk, hr, _, _, _ => by omega
  | k + 1, r, b, n, hk, hr, hb, hn, e => by
    -- s = b - n r
    have e1 : b * (b - n * r) = r * r := by grind
    have hs : 0 < b - n * r := by
      rcases Int.lt_or_le 0 (b - n * r) with h | h
      · exact h
      · have := Int.mul_nonneg (show 0 ≤ b by omega) (show 0 ≤ -(b - n * r) by omega)
        have := Int.mul_pos hr hr
        grind
    have hsr : b - n * r < r := by
      rcases Int.lt_or_le (b - n * r) r with h | h
      · exact h
      · have h1 := Int.mul_le_mul_of_nonneg_left h (show 0 ≤ b by omega)
        have h2 := Int.mul_lt_mul_of_pos_right hb hr
        omega
    exact no_root k (b - n * r) r n (by omega) hs hsr hn (by grind)
theorem cond_up {r b j i : Int} (hr : 0 < r) (hb : 0 < b) (h : j ≤ i) : r * (j * b + r) ≤ r * (i * b + r) := by
  have := Int.mul_le_mul_of_nonneg_left (Int.mul_le_mul_of_nonneg_right h (show 0 ≤ b by omega)) (show 0 ≤ r by omega)
  grind
/-- Nivasch: the value is the least that is missing behind the moves -/
theorem qv_mex {r b J : Int} (hr : 0 < r) (hrb : r ≤ b) (hJ : 0 ≤ J) (h0 : J = 0 → r = b) :
    (∀ v, 0 ≤ v → v < qv (J * b + r) b → ∃ j, 0 ≤ j ∧ j < J ∧ qv (j * b + r) b = v) ∧ ∀ j, 0 ≤ j → j < J → qv (j * b + r) b ≠ qv (J * b + r) b := by
  have hb : 0 < b := by omega
  rcases Int.lt_or_le 0 J with h | h
  · -- v0
    have e0 : qv (0 * b + r) b = qv b r := by rw [qv_comm]; simp
    obtain ⟨n1, n2, n3⟩ := qv_spec hr hrb
    generalize hn : qv b r = n at *
    -- where the threshold is
    have low : 1 ≤ n → ¬ b * b ≤ r * (n * b + r) := fun hn1 hc => by
      have hlt : r < b := by
        rcases Int.lt_or_le r b with h | h
        · exact h
        · have e : r = b := by omega
          subst e
          have := Int.mul_pos hb hb
          have := Int.mul_le_mul_of_nonneg_right hn1 (show 0 ≤ r * r by omega)
          grind
      have e5 : r * (n * b + r) = n * (b * r) + r * r := by grind
      exact no_root r.toNat r b n (Nat.le_refl _) hr hlt n3 (by omega)
    have up : b * b ≤ r * ((n + 1) * b + r) := by grind
    have val : ∀ j, 1 ≤ j → qv (j * b + r) b = if n + 1 ≤ j then j else j - 1 := fun j hj => by
      rw [qv_top hr hrb hj]
      by_cases hc : n + 1 ≤ j
      · rw [if_pos hc, if_pos (Int.le_trans up (cond_up hr hb hc))]
      · rw [if_neg hc, if_neg fun hx => low (by omega) (Int.le_trans hx (cond_up hr hb (by omega)))]
    rw [val J (by omega)]
    refine ⟨fun v hv hlt => ?_, fun j hj hlt => ?_⟩
    · by_cases c1 : v < n
      · exact ⟨v + 1, by omega, by split at hlt <;> omega, by rw [val _ (by omega), if_neg (by omega)]; omega⟩
      · by_cases c2 : v = n
        · exact ⟨0, by omega, by omega, by rw [e0, c2]⟩
        · exact ⟨v, hv, by split at hlt <;> omega, by rw [val _ (by omega), if_pos (by omega)]⟩
    · by_cases c : j = 0
      · subst c
        rw [e0]
        split <;> omega
      · rw [val j (by omega)]
        split <;> split <;> omega
  · have e : J = 0 := by omega
    subst e
    have e1 := h0 rfl
    subst e1
    refine ⟨fun v hv hlt => ?_, fun j h1 h2 => by omega⟩
    have : qv (0 * r + r) r = 0 := by
      refine qv_of hr (by omega) (by grind) (by have := Int.mul_pos hr hr; grind)
    omega
end K67

namespace K67
open PySem L2 PyProof.Rows Z
def topS (i : Nat) : Stmt := PySem.Challenge.pw_cantmove_k67_whole_quotients_of_heaps.main.body.getD i (.Pass ⟨0, 0, 0, 0⟩)
abbrev s_quotient_value : Stmt := topS 1
theorem sc_quotient_value : FnScope ["a", "b"] ["a", "b"] (defScope s_quotient_value) := ⟨rfl, rfl, rfl, by decide +kernel, rfl, by decide +kernel, by decide +kernel⟩
abbrev s_quotient_steps : Stmt := topS 2
theorem sc_quotient_steps : FnScope ["a", "b", "k"] ["a", "b"] (defScope s_quotient_steps) := ⟨rfl, rfl, rfl, by decide +kernel, rfl, by decide +kernel, by decide +kernel⟩
abbrev s_quotient_moves : Stmt := topS 3
theorem sc_quotient_moves : FnScope ["a", "b", "pair"] ["a", "b"] (defScope s_quotient_moves) := ⟨rfl, rfl, rfl, by decide +kernel, rfl, by decide +kernel, by decide +kernel⟩
abbrev s__law_box : Stmt := topS 5
theorem sc__law_box : FnScope ["script"] ["script"] (defScope s__law_box) := ⟨rfl, rfl, rfl, by decide +kernel, rfl, by decide +kernel, by decide +kernel⟩
abbrev s__law_load : Stmt := topS 6
theorem sc__law_load : FnScope ["box", "cells", "cell", "size", "first", "second"] ["box"] (defScope s__law_load) := ⟨rfl, rfl, rfl, by decide +kernel, rfl, by decide +kernel, by decide +kernel⟩
abbrev s__law_draw : Stmt := topS 7
theorem sc__law_draw : FnScope ["box", "many", "digit"] ["box", "many"] (defScope s__law_draw) := ⟨rfl, rfl, rfl, by decide +kernel, rfl, by decide +kernel, by decide +kernel⟩
abbrev s__law_same : Stmt := topS 8
theorem sc__law_same : FnScope ["a", "b", "k"] ["a", "b"] (defScope s__law_same) := ⟨rfl, rfl, rfl, by decide +kernel, rfl, by decide +kernel, by decide +kernel⟩
abbrev s__law_moves : Stmt := topS 9
theorem sc__law_moves : FnScope ["a", "b", "found"] ["a", "b"] (defScope s__law_moves) := ⟨rfl, rfl, rfl, by decide +kernel, rfl, by decide +kernel, by decide +kernel⟩
abbrev s__law_value : Stmt := topS 10
theorem sc__law_value : FnScope ["a", "b", "met", "worths", "x", "y", "found"] ["a", "b", "met"] (defScope s__law_value) := ⟨rfl, rfl, rfl, by decide +kernel, rfl, by decide +kernel, by decide +kernel⟩
abbrev s__law_far : Stmt := topS 11
theorem sc__law_far : FnScope ["a", "b", "low", "high", "difference_there", "middle"] ["a", "b"] (defScope s__law_far) := ⟨rfl, rfl, rfl, by decide +kernel, rfl, by decide +kernel, by decide +kernel⟩
abbrev s_law : Stmt := topS 12
theorem sc_law : FnScope ["script", "box", "met", "turn", "most", "a", "b", "times_more", "due", "high", "low", "wins", "pair", "one", "other", "step", "told", "x", "y"] ["script"] (defScope s_law) := ⟨rfl, rfl, rfl, by decide +kernel, rfl, by decide +kernel, by decide +kernel⟩
section
variable {P : Program} {w : World} {K : PySem.W.Frag} {mg : Str → Option Value} {base : Heap}
def big (n : Nat) (i : Int) : Prop := i.natAbs < 2 ^ n
theorem cmul {i j : Int} (hi : big 1000 i) (hj : big 1000 j) : CMulW i j := wide_mul hi hj (by decide) (by decide) (by decide)
theorem big_mul {n m : Nat} {i j : Int} (hi : big n i) (hj : big m j) : big (n + m) (i * j) := by
  unfold big at *
  exact wide_lt hi hj
def aQV : Int × Int → List IT := fun x => [.d (.int x.1), .d (.int x.2)]
def okQV : Int × Int → Prop := fun x => 0 < x.1 ∧ 0 < x.2 ∧ big 1000 x.1 ∧ big 1000 x.2
theorem c_qv (D : Dfn K mg "quotient_value" s_quotient_value ["a", "b"]) (ma : mg "abs" = none) :
    Cal P w K mg base 1 "quotient_value" (preOf aQV okQV) (relOf aQV okQV (fun x => .d (.int (qv x.1 x.2))) (fun _ => [])) := by
  refine zfunS D sc_quotient_value (fun _ => rfl) (fun x y _ _ e => by simp [aQV] at e; simp [e]) fun f cdv Ar outer s H E y hy hr => ?_
  obtain ⟨a, b⟩ := y
  obtain ⟨h1, h2, h3, h4⟩ := hy
  refine zss_ret (ze_divW ⟨Int.mul_pos h1 h2, ?_⟩ (ze_absI (za_cons (ze_sub (ze_mulW (cmul h3 h3) (ze_var 0 rfl) (ze_var 0 rfl)) (ze_mulW (cmul h4 h4) (ze_var 1 rfl) (ze_var 1 rfl))) za_nil) ma) (ze_mulW (cmul h3 h4) (ze_var 0 rfl) (ze_var 1 rfl))) ?_
  · exact PySem.Flt.log2_lt_of (by decide) (Nat.lt_of_lt_of_le (big_mul h3 h4) (Nat.pow_le_pow_right (by decide) (by decide)))
  · exact ⟨rfl, rfl⟩
end
end K67

namespace K67
open PySem L2 PyProof.Rows Z
section
variable {P : Program} {w : World} {K : PySem.W.Frag} {mg : Str → Option Value} {base : Heap}
theorem c_load (D : Dfn K mg "_law_load" s__law_load ["box"]) (m1 : mg "len" = none) (m2 : mg "int" = none) :
    Cal P w K mg base 1 "_law_load" (preOf aBx BOK) (relOf aBx BOK rLoad oLoad) := by
  refine zfunS D sc__law_load (fun _ => rfl) (fun x y _ _ e => by
    have e1 : OBox x = OBox y := by simpa [aBx] using e
    have := obox_inj K e1
    subst this
    exact ⟨rfl, rfl⟩) fun f cdv Ar outer s H E b hy hr => ?_
  obtain ⟨hx, ⟨y1, y2⟩, hl⟩ := hy
  have fin : ∀ (cells : List Int) (x y : Int) (r1 r2 : SD), 0 ≤ y → y < 2 ^ 31 → loadB b = finB cells x y → ZSs (cxOf CX0 P w K mg base ["box", "cells", "cell", "size", "first", "second"] "_law_load" (defScope s__law_load) f cdv Ar outer s H E).nox ((defBody s__law_load).drop 2) ⟨[.r 0, .un, r1, r2, .un, .un], [OBox ⟨cells, x, y⟩]⟩ (poS 1 (rLoad b) (oLoad b)) := by
    intro cells x y r1 r2 y1 y2 hf
    have mu : ∀ {i j : Int}, 0 ≤ i → i < 2147483648 → CMul i j := fun h1 h2 => .inl ⟨by omega, by omega⟩
    refine zss_set 4 (ze_mod (by decide) (ze_intI (za_cons (ze_add (ze_mul (mu y1 y2) (ze_ixO rfl (ix_box2 (b := ⟨cells, x, y⟩)) (flI _) (ze_var 0 rfl) ze_int) ze_int) ze_int) za_nil) m2) ze_int) (lt_of rfl) ?_ sc__law_load.nd
    refine zss_set 5 (ze_mod (by decide) (ze_intI (za_cons (ze_add (ze_mul (mu (by omega) (by omega)) (ze_var 4 rfl) ze_int) ze_int) za_nil) m2) ze_int) (lt_of rfl) ?_ sc__law_load.nd
    refine zss_putO (put_box2 (b := ⟨cells, x, y⟩)) (ze_mod (by decide) (ze_intI (za_cons (ze_add (ze_mul (mu (by omega) (by omega)) (ze_var 5 rfl) ze_int) ze_int) za_nil) m2) ze_int) (ze_var 0 rfl) ze_int rfl (fun h => by cases h; rfl) ?_
    refine zss_ret (ze_add (ze_add (ze_mul (mu (by omega) (by omega)) (ze_var 4 rfl) ze_int) (ze_mul (mu (by omega) (by omega)) (ze_var 5 rfl) ze_int)) (ze_ixO rfl (ix_box2 (b := ⟨cells, x, _⟩)) (flI _) (ze_var 0 rfl) ze_int)) ?_
    refine ⟨?_, ?_⟩
    · show rLoad b = _
      unfold rLoad
      rw [hf]
      rfl
    · show _ = oLoad b
      unfold oLoad
      rw [hf]
      rfl
  refine zss_open (o := 0) rfl fun p c => ?_
  refine zss_set 1 (ze_ixR (n := 1) rfl (ix_oa (vs := [.ref c, .int b.x, .int b.y]) rfl) rfl oa_is (ze_var 0 rfl) ze_int) (lt_of rfl) ?_ sc__law_load.nd
  obtain ⟨cs, x, y⟩ := b
  cases cs with
  | nil =>
    refine zss_ifI (k := false) (M := fun t => t = _) (ZT.imp (zt_gt (ze_lenO rfl len_oa (za_cons (ze_var 1 rfl) za_nil) m1) ze_int) fun b t ⟨e1, e2⟩ => ⟨by rw [e1]; rfl, e2⟩) (fun h => by cases h) (fun _ => zss_nil rfl) fun t e => ?_
    subst e
    exact zss_close (b := ⟨[], x, y⟩) (o := 0) (e' := [.r 0, .un, .un, .un, .un, .un]) (R := [_]) rfl rfl (Nat.le_refl _) ⟨.inl rfl, .inr rfl, .inl rfl, .inl rfl, .inl rfl, .inl rfl, trivial⟩ (by simp [low]) (fin [] x y .un .un y1 y2 rfl)
  | cons z r =>
    refine zss_ifI (k := true) (M := fun t => ∃ r1 r2 y', 0 ≤ y' ∧ y' < 2 ^ 31 ∧ loadB ⟨z :: r, x, y⟩ = finB r x y' ∧ t = ⟨[.r 0, .un, r1, r2, .un, .un], [OBox ⟨r, x, y'⟩]⟩) (ZT.imp (zt_gt (ze_lenO rfl len_oa (za_cons (ze_var 1 rfl) za_nil) m1) ze_int) fun b t ⟨e1, e2⟩ => ⟨by rw [e1]; simp, e2⟩) (fun h => ?_) (fun h => by cases h) fun t e => ?_
    · refine zss_set 2 (ze_intI (za_cons (ze_popO rfl pop_oa (flI z) (ze_var 1 rfl) (za_cons ze_int za_nil) (fun K F H v fp _ h => let ⟨a1, a2, a3⟩ := h; ⟨_, _, a1, a3⟩) rfl) za_nil) m2) (lt_of rfl) ?_ sc__law_load.nd
      have mu : ∀ {i j : Int}, 0 ≤ i → i < 2147483648 → CMul i j := fun h1 h2 => .inl ⟨by omega, by omega⟩
      refine zss_set 3 (r := .d (.int (cellB z))) (ze_iteI (zt_ge (ze_var 2 rfl) ze_int) (fun _ => ze_mul (.inl ⟨by decide, by decide⟩) ze_int (ze_var 2 rfl)) fun _ => ze_sub (ze_mul (.inl ⟨by decide, by decide⟩) (ze_neg ze_int) (ze_var 2 rfl)) ze_int) (lt_of rfl) ?_ sc__law_load.nd
      refine zss_close (b := ⟨r, x, y⟩) (o := 0) (e' := [.r 0, .un, .d (.int z), .d (.int (cellB z)), .un, .un]) (R := [_]) rfl rfl (Nat.le_refl _) ⟨.inl rfl, .inr rfl, .inl rfl, .inl rfl, .inl rfl, .inl rfl, trivial⟩ (by simp [low]) ?_
      have hp := cell_pos z
      refine zss_ifRet (zt_ge (ze_var 3 rfl) ze_int) (fun hk => ?_) fun hk => ?_
      · refine zss_ret (ze_var 3 rfl) ⟨?_, ?_⟩
        · show rLoad _ = _
          unfold rLoad loadB
          simp only [hk, if_true]
        · show _ = oLoad _
          unfold oLoad loadB
          simp only [hk, if_true]
          rfl
      · refine zss_putO (put_box2 (b := ⟨r, x, y⟩)) (ze_mod (by decide) (ze_intI (za_cons (ze_add (ze_add (ze_mul (mu y1 y2) (ze_ixO rfl (ix_box2 (b := ⟨r, x, y⟩)) (flI _) (ze_var 0 rfl) ze_int) ze_int) (ze_mul (.inl ⟨by omega, by simp at hk; omega⟩) (ze_var 3 rfl) ze_int)) ze_int) za_nil) m2) ze_int) (ze_var 0 rfl) ze_int rfl (fun h => by cases h; rfl) ?_
        refine zss_nil ⟨_, _, _, ?_, ?_, ?_, rfl⟩
        · omega
        · omega
        · unfold loadB
          simp only [hk, Bool.false_eq_true, if_false]
    · obtain ⟨r1, r2, y', h1, h2, h3, h4⟩ := e
      subst h4
      exact fin r x y' r1 r2 h1 h2 h3
end
end K67

namespace K67
open PySem L2 PyProof.Rows Z
section
variable {P : Program} {w : World} {K : PySem.W.Frag} {mg : Str → Option Value} {base : Heap}
theorem c_draw (D : Dfn K mg "_law_draw" s__law_draw ["box", "many"]) (cl : Cal P w K mg base 1 "_law_load" (preOf aBx BOK) (relOf aBx BOK rLoad oLoad)) (m2 : mg "int" = none) :
    Cal P w K mg base 2 "_law_draw" (preOf aDr okDr) (relOf aDr okDr rDraw oDraw) := by
  refine zfunS D sc__law_draw (fun _ => rfl) (fun x y _ _ e => by
    obtain ⟨x1, x2⟩ := x
    obtain ⟨y1, y2⟩ := y
    have e0 : OBox x1 = OBox y1 ∧ x2 = y2 := by simpa [aDr] using e
    obtain ⟨e1, e2⟩ := e0
    have := obox_inj K e1
    subst this e2
    exact ⟨rfl, rfl⟩) fun f cdv Ar outer s H E b hy hr => ?_
  obtain ⟨b, m⟩ := b
  obtain ⟨hb, hm⟩ := hy
  refine zss_ifI (k := decide (b.x < m)) (M := fun t => t = ⟨[.r 0, .d (.int m), .un], [OBox (if b.x < m then ⟨(loadB b).2.cells, (loadB b).1, (loadB b).2.y⟩ else b)]⟩) (zt_lt (ze_ixO rfl (ix_box1 (b := b)) (flI _) (ze_var 0 rfl) ze_int) (ze_var 1 rfl)) (fun h => ?_) (fun h => ?_) fun t e => ?_
  · have h' : b.x < m := of_decide_eq_true h
    rw [if_pos h']
    exact zss_putO (put_box1 (b := (loadB b).2)) (ze_callS1 b cl (za_cons (ze_var 0 rfl) za_nil) hb rfl rfl rfl hr) (ze_var 0 rfl) ze_int rfl (fun h => by cases h; rfl) (zss_nil rfl)
  · have h' : ¬ b.x < m := of_decide_eq_false h
    rw [if_neg h']
    exact zss_nil rfl
  · subst e
    generalize hB : (if b.x < m then (⟨(loadB b).2.cells, (loadB b).1, (loadB b).2.y⟩ : Bx) else b) = B
    refine zss_set 2 (ze_mod hm.1 (ze_intI (za_cons (ze_ixO rfl (ix_box1 (b := B)) (flI _) (ze_var 0 rfl) ze_int) za_nil) m2) (ze_var 1 rfl)) (lt_of rfl) ?_ sc__law_draw.nd
    refine zss_putO (put_box1 (b := B)) (ze_divW (show CDivW B.x m from hm) (ze_ixO rfl (ix_box1 (b := B)) (flI _) (ze_var 0 rfl) ze_int) (ze_var 1 rfl)) (ze_var 0 rfl) ze_int rfl (fun h => by cases h; rfl) ?_
    refine zss_ret (ze_var 2 rfl) ⟨?_, ?_⟩
    · show IT.d (.int (drawB b m).1) = _
      unfold drawB
      rw [hB]
    · show _ = [OBox (drawB b m).2]
      unfold drawB
      rw [hB]
      rfl
theorem c_box (D : Dfn K mg "_law_box" s__law_box ["script"]) (m1 : mg "len" = none) (m2 : mg "list" = none) :
    Cal P w K mg base 1 "_law_box" (preOf aSc0 (fun ns => ns.length ≤ 63)) (relOf aSc0 (fun ns => ns.length ≤ 63) (fun ns => .o (OBox (box0 ns))) (fun _ => [])) := by
  refine zfunS D sc__law_box (fun _ => rfl) (fun x y _ _ e => by
    have e1 : x.map PyData.int = y.map PyData.int := by simpa [aSc0] using e
    have : x = y := (List.map_inj_right (fun x y e => by cases e; rfl)).mp e1
    subst this
    exact ⟨rfl, rfl⟩) fun f cdv Ar outer s H E ns hy hr => ?_
  refine zss_ret (ze_boxD (ns := ns) (o := 0) (za_cons (ze_listO (.d _) (za_cons (ze_slL (.d _) (ze_var 0 rfl) zp_none (zp_some ze_int)) za_nil) m2) (za_cons ze_int (za_cons (ze_add ze_int (ze_lenL (.d _) (za_cons (ze_var 0 rfl) za_nil) m1)) za_nil))) ?_) ⟨Nat.zero_le _, .inl ⟨_, rfl, ?_⟩, rfl⟩
  · show some (OL (cut (ns.map .int) none (some 63))) = _
    rw [cut63 (by simpa using hy)]
  · show IT.o _ = IT.o _
    unfold box0
    rw [List.length_map]
end
end K67

namespace K67
open PySem L2 PyProof.Rows Z
section
variable {P : Program} {w : World} {K : PySem.W.Frag} {mg : Str → Option Value} {base : Heap}
structure SameM (mg : Str → Option Value) : Prop where
  isi : mg "isinstance" = none
  tup : mg "tuple" = none
  lst : mg "list" = none
  bl : mg "bool" = none
  int : mg "int" = none
  str : mg "str" = none
  len : mg "len" = none
  all : mg "all" = none
  range : mg "range" = none
theorem same_body (D : Dfn K mg "_law_same" s__law_same ["a", "b"]) (m : SameM mg) (n : Nat) (ih : ∀ j, n = j + 1 → Cal P w K mg base n "_law_same" (preOf aSm (okSm j)) (relOf aSm (okSm j) rSm (fun _ => []))) :
    Cal P w K mg base (n + 1) "_law_same" (preOf aSm (okSm n)) (relOf aSm (okSm n) rSm (fun _ => [])) := by
  refine zfunS D sc__law_same (fun _ => rfl) (fun x y _ _ e => by
    obtain ⟨x1, x2⟩ := x
    obtain ⟨y1, y2⟩ := y
    have e0 : x1 = y1 ∧ x2 = y2 := by simpa [aSm] using e
    obtain ⟨e1, e2⟩ := e0
    subst e1 e2
    exact ⟨rfl, rfl⟩) fun f cdv Ar outer s H E z hy hr => ?_
  obtain ⟨x, y⟩ := z
  obtain ⟨nx, ny, hd⟩ := hy
  have hu := hr.units
  refine zss_ifRet (k := (isTup x && isTup y) || (isLst x && isLst y)) (zw_orI (zw_andI (zt_isi (.d x) (kit_tup x) (ze_var 0 rfl) m.isi m.tup) (fun _ => zw_and1 (zt_isi (.d y) (kit_tup y) (ze_var 1 rfl) m.isi m.tup))).t
    (fun _ => zw_or1 (zw_andI (zt_isi (.d x) (kit_lst x) (ze_var 0 rfl) m.isi m.lst) (fun _ => zw_and1 (zt_isi (.d y) (kit_lst y) (ze_var 1 rfl) m.isi m.lst))).t)).t (fun h => ?_) (fun h0 => ?_)
  · have hc : (∃ xs ys, x = .tuple xs ∧ y = .tuple ys) ∨ (∃ xs ys, x = .list xs ∧ y = .list ys) := by
      cases x <;> cases y <;> first | (exact .inl ⟨_, _, rfl, rfl⟩) | (exact .inr ⟨_, _, rfl, rfl⟩) | (simp [isTup, isLst] at h)
    rcases hc with ⟨xs, ys, rfl, rfl⟩ | ⟨xs, ys, rfl, rfl⟩
    · simp only [nar, Bool.and_eq_true, decide_eq_true_eq] at nx ny
      simp only [PyData.depth] at hd
      obtain ⟨j, rfl⟩ : ∃ j, n = j + 1 := ⟨n - 1, by omega⟩
      refine zss_ret (r := .d (.bool (xs.length == ys.length && sames xs ys))) (ze_and (k := xs.length == ys.length) ((ze_eq hu (.d _) (.d _) rfl rfl (ze_lenT (.d (.tuple xs)) (za_cons (ze_var 0 rfl) za_nil) m.len) (ze_lenT (.d (.tuple ys)) (za_cons (ze_var 1 rfl) za_nil) m.len)).to (by congr 2; show ((xs.length : Int) == (ys.length : Int)) = _; rw [Bool.eq_iff_iff]; simp [beq_iff_eq]; omega) rfl) fun hl => ?_) ⟨?_, rfl⟩
      · have hl : xs.length = ys.length := by simpa using hl
        obtain ⟨bs, h1, h2⟩ := smAt_rng hl
        rw [← h2]
        refine ze_one (ze_all (bs := bs) (.d _) (za_cons (ZE.to (ze_lcM (smAt xs ys) (vs := [2]) (zi_rng1 (za_cons (ze_lenT (.d (.tuple xs)) (za_cons (ze_var 0 rfl) za_nil) m.len) za_nil) ⟨by omega, by have := sizeLine_eq; omega⟩ m.range) (fun x hx => ?_) (by rw [rng_len]; simpa using nx.1) sc__law_same.nd (blkOk_by (own := [("k", 2)]) (by kernel_rfl))) (by
          show SD.d (.list (List.map _ (rng 0 (Int.toNat (xs.length : Nat))))) = _
          rw [Int.toNat_natCast, h1]) rfl) za_nil) m.all)
        obtain ⟨k, hk, rfl⟩ := rng_in0 hx
        have hk : k < xs.length := by simpa using hk
        have g1 : xs[k]? = some (xs.getD k .none) := by rw [List.getD_eq_getElem?_getD, List.getElem?_eq_getElem hk]; rfl
        have g2 : ys[k]? = some (ys.getD k .none) := by rw [List.getD_eq_getElem?_getD, List.getElem?_eq_getElem (by omega)]; rfl
        refine ⟨_, fun z => zg_name 2 (lt_of rfl) sc__law_same.nd, rfl, fun z => ?_⟩
        have d1 := deps_get g1
        have d2 := deps_get g2
        exact ZE.to (ze_callS (xs.getD k .none, ys.getD k .none) (ih j rfl) (za_cons (ze_ixT (.d (.tuple xs)) (atI_nat g1) (ze_var 0 rfl) (ze_var 2 rfl)) (za_cons (ze_ixT (.d (.tuple ys)) (atI_nat g2) (ze_var 1 rfl) (ze_var 2 rfl)) za_nil)) ⟨nars_get nx.2 g1, nars_get ny.2 g2, by show min (xs.getD k .none).depth (ys.getD k .none).depth ≤ j; omega⟩ rfl hr (Nat.le_refl _)) rfl rfl
      · show IT.d (.bool (same _ _)) = _
        simp only [same]
    · simp only [nar, Bool.and_eq_true, decide_eq_true_eq] at nx ny
      simp only [PyData.depth] at hd
      obtain ⟨j, rfl⟩ : ∃ j, n = j + 1 := ⟨n - 1, by omega⟩
      refine zss_ret (r := .d (.bool (xs.length == ys.length && sames xs ys))) (ze_and (k := xs.length == ys.length) ((ze_eq hu (.d _) (.d _) rfl rfl (ze_lenL (.d (.list xs)) (za_cons (ze_var 0 rfl) za_nil) m.len) (ze_lenL (.d (.list ys)) (za_cons (ze_var 1 rfl) za_nil) m.len)).to (by congr 2; show ((xs.length : Int) == (ys.length : Int)) = _; rw [Bool.eq_iff_iff]; simp [beq_iff_eq]; omega) rfl) fun hl => ?_) ⟨?_, rfl⟩
      · have hl : xs.length = ys.length := by simpa using hl
        obtain ⟨bs, h1, h2⟩ := smAt_rng hl
        rw [← h2]
        refine ze_one (ze_all (bs := bs) (.d _) (za_cons (ZE.to (ze_lcM (smAt xs ys) (vs := [2]) (zi_rng1 (za_cons (ze_lenL (.d (.list xs)) (za_cons (ze_var 0 rfl) za_nil) m.len) za_nil) ⟨by omega, by have := sizeLine_eq; omega⟩ m.range) (fun x hx => ?_) (by rw [rng_len]; simpa using nx.1) sc__law_same.nd (blkOk_by (own := [("k", 2)]) (by kernel_rfl))) (by
          show SD.d (.list (List.map _ (rng 0 (Int.toNat (xs.length : Nat))))) = _
          rw [Int.toNat_natCast, h1]) rfl) za_nil) m.all)
        obtain ⟨k, hk, rfl⟩ := rng_in0 hx
        have hk : k < xs.length := by simpa using hk
        have g1 : xs[k]? = some (xs.getD k .none) := by rw [List.getD_eq_getElem?_getD, List.getElem?_eq_getElem hk]; rfl
        have g2 : ys[k]? = some (ys.getD k .none) := by rw [List.getD_eq_getElem?_getD, List.getElem?_eq_getElem (by omega)]; rfl
        refine ⟨_, fun z => zg_name 2 (lt_of rfl) sc__law_same.nd, rfl, fun z => ?_⟩
        have d1 := deps_get g1
        have d2 := deps_get g2
        exact ZE.to (ze_callS (xs.getD k .none, ys.getD k .none) (ih j rfl) (za_cons (ze_ixL (.d (.list xs)) (atI_nat g1) (ze_var 0 rfl) (ze_var 2 rfl)) (za_cons (ze_ixL (.d (.list ys)) (atI_nat g2) (ze_var 1 rfl) (ze_var 2 rfl)) za_nil)) ⟨nars_get nx.2 g1, nars_get ny.2 g2, by show min (xs.getD k .none).depth (ys.getD k .none).depth ≤ j; omega⟩ rfl hr (Nat.le_refl _)) rfl rfl
      · show IT.d (.bool (same _ _)) = _
        simp only [same]
  · refine zss_ifRet (k := isBl x || isBl y) (zw_orI (zt_isi (.d x) (kit_bl x) (ze_var 0 rfl) m.isi m.bl) (fun _ => zw_or1 (zt_isi (.d y) (kit_bl y) (ze_var 1 rfl) m.isi m.bl))).t (fun h => ?_) (fun h => ?_)
    · refine zss_ret (r := .d (.bool (isBl x && (isBl y && PyData.eqv x y)))) (ze_and (ze_isi (.d x) (kit_bl x) (ze_var 0 rfl) m.isi m.bl) fun hx => ze_and (ze_isi (.d y) (kit_bl y) (ze_var 1 rfl) m.isi m.bl) fun hy => ze_one (ze_eq hu (.d x) (.d y) (by cases x <;> first | rfl | cases hx) (by cases y <;> first | rfl | cases hy) (ze_var 0 rfl) (ze_var 1 rfl))) ⟨?_, rfl⟩
      show IT.d (.bool (same x y)) = .d (.bool _)
      cases x <;> cases y <;> first | (simp [isBl] at h; done) | (simp [same, isBl, PyData.eqv]; done) | (simp [same, isBl, PyData.eqv]; rfl)
    · refine zss_ifRet (k := (isInt x && isInt y) || (isStr x && isStr y)) (zw_orI (zw_andI (zt_isi (.d x) (kit_int x) (ze_var 0 rfl) m.isi m.int) (fun _ => zw_and1 (zt_isi (.d y) (kit_int y) (ze_var 1 rfl) m.isi m.int))).t
        (fun _ => zw_or1 (zw_andI (zt_isi (.d x) (kit_str x) (ze_var 0 rfl) m.isi m.str) (fun _ => zw_and1 (zt_isi (.d y) (kit_str y) (ze_var 1 rfl) m.isi m.str))).t)).t (fun h2 => ?_) (fun h2 => ?_)
      · have hc : (∃ i j, x = .int i ∧ y = .int j) ∨ (∃ i j, x = .str i ∧ y = .str j) := by
          cases x <;> cases y <;> first | (exact .inl ⟨_, _, rfl, rfl⟩) | (exact .inr ⟨_, _, rfl, rfl⟩) | (simp [isBl, Z.isInt, isStr] at h h2; done)
        rcases hc with ⟨i, j, rfl, rfl⟩ | ⟨i, j, rfl, rfl⟩
        · refine zss_ret (ze_eqP (.d _) (.d _) (ze_var 0 rfl) (ze_var 1 rfl) rfl rfl (roomE hu (by simp [PyData.depth]))) ⟨?_, rfl⟩
          show IT.d (.bool (same _ _)) = .d (.bool _)
          simp only [same, PyData.eqv]
        · refine zss_ret (ze_eqP (.d _) (.d _) (ze_var 0 rfl) (ze_var 1 rfl) rfl rfl (roomE hu (by simp [PyData.depth]))) ⟨?_, rfl⟩
          show IT.d (.bool (same _ _)) = .d (.bool _)
          simp only [same, PyData.eqv]
      · refine zss_ret (r := .d (.bool (isNon x && isNon y))) (ze_and (ze_isN (.d x) (ze_var 0 rfl)) fun _ => ze_one (ze_isN (.d y) (ze_var 1 rfl))) ⟨?_, rfl⟩
        show IT.d (.bool (same x y)) = .d (.bool _)
        cases x <;> cases y <;> first | (simp [same, isNon]; done) | (simp [isBl, Z.isInt, isStr, isTup, isLst] at h0 h h2; done)
theorem c_same (D : Dfn K mg "_law_same" s__law_same ["a", "b"]) (m : SameM mg) : ∀ n : Nat,
    Cal P w K mg base (n + 1) "_law_same" (preOf aSm (okSm n)) (relOf aSm (okSm n) rSm (fun _ => []))
  | 0 => same_body D m 0 fun j h => by cases h
  | n + 1 => same_body D m (n + 1) fun j h => by cases h; exact c_same D m n
end
end K67

namespace K67
open PySem L2 PyProof.Rows Z
def pI (z : Int × Int) : PyData := .tuple [.int z.1, .int z.2]
def stN (a b : Int) : Nat := ((a - 1) / b).toNat
def stL (a b : Int) : List (Int × Int) := (List.range (stN a b)).map fun (k : Nat) => (a - (1 + (k : Int)) * b, b)
def steps (a b : Int) : List (Int × Int) := if b ≤ a then stL a b else (stL b a).map fun z => (z.2, z.1)
def okQ : Int × Int → Prop := fun z => 0 < z.1 ∧ 0 < z.2 ∧ big 1000 z.1 ∧ big 1000 z.2 ∧ (z.1 - 1) / z.2 < 2 ^ 23 ∧ (z.2 - 1) / z.1 < 2 ^ 23
def stF (a b : Int) (x : PyData) : PyData := match x with
  | .int k => pI (a - k * b, b)
  | _ => .none
def stG (a b : Int) (x : PyData) : PyData := match x with
  | .int k => pI (b, a - k * b)
  | _ => .none
theorem st_f (a b : Int) : (rng 1 ((a - 1) / b + 1 - 1).toNat).map (stF a b) = (stL a b).map pI := by
  unfold rng stL stN
  rw [List.map_map, List.map_map, show (a - 1) / b + 1 - 1 = (a - 1) / b by omega]
  exact List.map_congr_left fun k _ => rfl
theorem st_g (a b : Int) : (rng 1 ((a - 1) / b + 1 - 1).toNat).map (stG a b) = ((stL a b).map fun z => (z.2, z.1)).map pI := by
  unfold rng stL stN
  rw [List.map_map, List.map_map, List.map_map, show (a - 1) / b + 1 - 1 = (a - 1) / b by omega]
  exact List.map_congr_left fun k _ => rfl
theorem ql {x i : Int} (h : big 1000 i) (hp : 0 < i) : CDivW x i := ⟨hp, PySem.Flt.log2_lt_of (by decide) (Nat.lt_of_lt_of_le h (Nat.pow_le_pow_right (by decide) (by decide)))⟩
section
variable {P : Program} {w : World} {K : PySem.W.Frag} {mg : Str → Option Value} {base : Heap}
theorem c_steps (D : Dfn K mg "quotient_steps" s_quotient_steps ["a", "b"]) (mr : mg "range" = none) :
    Cal P w K mg base 1 "quotient_steps" (preOf aQV okQ) (relOf aQV okQ (fun x => .d (.list ((steps x.1 x.2).map pI))) (fun _ => [])) := by
  refine zfunS D sc_quotient_steps (fun _ => rfl) (fun x y _ _ e => by simp [aQV] at e; simp [e]) fun f cdv Ar outer s H E y hy hr => ?_
  obtain ⟨a, b⟩ := y
  obtain ⟨h1, h2, h3, h4, h5, h6⟩ : 0 < a ∧ 0 < b ∧ big 1000 a ∧ big 1000 b ∧ (a - 1) / b < 2 ^ 23 ∧ (b - 1) / a < 2 ^ 23 := hy
  have sz : (2 : Int) ^ 23 < sizeLine := by decide
  have rb : ∀ {x y : Int}, 0 < x → 0 < y → (x - 1) / y < 2 ^ 23 → 0 ≤ (x - 1) / y ∧ -(2 ^ 62) ≤ (1 : Int) ∧ (1 : Int) < 2 ^ 62 ∧ -(2 ^ 62) ≤ (x - 1) / y + 1 ∧ (x - 1) / y + 1 < 2 ^ 62 := fun {x y} hx hy h => by
    have := Int.ediv_nonneg (show 0 ≤ x - 1 by omega) (show (0 : Int) ≤ y by omega)
    exact ⟨this, by decide, by decide, by omega, by omega⟩
  have kb : ∀ {k : Nat} {x y z : Int}, 0 < x → 0 < y → (x - 1) / y < 2 ^ 23 → k < ((x - 1) / y + 1 - 1).toNat → big 1000 z → CMulW (1 + (k : Int)) z := fun {k x y z} hx hy h hk hz => by
    have : big 1000 (1 + (k : Int)) := by
      unfold big
      have := (rb hx hy h).1
      refine Nat.lt_of_lt_of_le (m := 2 ^ 24) ?_ (Nat.pow_le_pow_right (by decide) (by decide))
      omega
    exact cmul this hz
  refine zss_ifRet (zt_ge (ze_var 0 rfl) (ze_var 1 rfl)) (fun h => ?_) (fun h => ?_)
  · have h : b ≤ a := of_decide_eq_true h
    obtain ⟨r0, r1, r2, r3, r4⟩ := rb h1 h2 h5
    refine zss_ret (ZE.to (ze_lcM (stF a b) (vs := [2]) (zi_rng2 (za_cons ze_int (za_cons (ze_add (ze_divW (ql h4 h2) (ze_sub (ze_var 0 rfl) ze_int) (ze_var 1 rfl)) ze_int) za_nil)) ⟨r1, r2, r3, r4⟩ mr) (fun x hx => ?_) (by rw [rng_len]; show ((a - 1) / b + 1 - 1).toNat < sizeLine; omega) sc_quotient_steps.nd (blkOk_by (own := [("k", 2)]) (by kernel_rfl))) (congrArg (fun z => SD.d (.list z)) (st_f a b)) rfl) ⟨?_, rfl⟩
    · obtain ⟨k, hk, rfl⟩ := rng_in hx
      exact ⟨_, fun z => zg_name 2 (lt_of rfl) sc_quotient_steps.nd, rfl, fun z => ze_tup (ds := [.int (a - (1 + (k : Int)) * b), .int b]) (za_cons (ze_sub (ze_var 0 rfl) (ze_mulW (kb h1 h2 h5 hk h4) (ze_var 2 rfl) (ze_var 1 rfl))) (za_cons (ze_var 1 rfl) za_nil))⟩
    · show IT.d (.list ((steps a b).map pI)) = _
      unfold steps
      rw [if_pos h]
  · have h : ¬ b ≤ a := of_decide_eq_false h
    obtain ⟨r0, r1, r2, r3, r4⟩ := rb h2 h1 h6
    refine zss_ret (ZE.to (ze_lcM (stG b a) (vs := [2]) (zi_rng2 (za_cons ze_int (za_cons (ze_add (ze_divW (ql h3 h1) (ze_sub (ze_var 1 rfl) ze_int) (ze_var 0 rfl)) ze_int) za_nil)) ⟨r1, r2, r3, r4⟩ mr) (fun x hx => ?_) (by rw [rng_len]; show ((b - 1) / a + 1 - 1).toNat < sizeLine; omega) sc_quotient_steps.nd (blkOk_by (own := [("k", 2)]) (by kernel_rfl))) (congrArg (fun z => SD.d (.list z)) (st_g b a)) rfl) ⟨?_, rfl⟩
    · obtain ⟨k, hk, rfl⟩ := rng_in hx
      exact ⟨_, fun z => zg_name 2 (lt_of rfl) sc_quotient_steps.nd, rfl, fun z => ze_tup (ds := [.int a, .int (b - (1 + (k : Int)) * a)]) (za_cons (ze_var 0 rfl) (za_cons (ze_sub (ze_var 1 rfl) (ze_mulW (kb h2 h1 h6 hk h3) (ze_var 2 rfl) (ze_var 0 rfl))) za_nil))⟩
    · show IT.d (.list ((steps a b).map pI)) = _
      unfold steps
      rw [if_neg h]
/-- the winning moves -/
def wins (a b : Int) : List (Int × Int) := (steps a b).filter fun z => decide (qv z.1 z.2 = 0)
def isW (x : PyData) : Bool := match x with
  | .tuple [.int a, .int b] => decide (qv a b = 0)
  | _ => false
theorem isW_map (l : List (Int × Int)) : (l.map pI).filter isW = (l.filter fun z => decide (qv z.1 z.2 = 0)).map pI := by
  rw [List.filter_map]
  rfl
theorem st_pos {a b : Int} (ha : 0 < a) (hb : 0 < b) {z : Int × Int} (h : z ∈ stL a b) : 0 < z.1 ∧ z.1 < a ∧ z.2 = b := by
  unfold stL stN at h
  obtain ⟨k, hk, rfl⟩ := List.mem_map.mp h
  have hk : k < ((a - 1) / b).toNat := by simpa using hk
  have h1 : (1 + (k : Int)) ≤ (a - 1) / b := by omega
  have h2 := (Int.le_ediv_iff_mul_le hb).mp h1
  have h3 : b ≤ (1 + (k : Int)) * b := by
    have := Int.mul_le_mul_of_nonneg_right (show (1 : Int) ≤ 1 + k by omega) (show 0 ≤ b by omega)
    omega
  exact ⟨by show 0 < a - _; omega, by show a - _ < a; omega, rfl⟩
theorem big_le {n : Nat} {i j : Int} (h : big n j) (h0 : 0 ≤ i) (hij : i ≤ j) : big n i := by unfold big at *; omega
theorem steps_ok {a b : Int} (h : okQ (a, b)) {z : Int × Int} (hz : z ∈ steps a b) : okQV z := by
  obtain ⟨h1, h2, h3, h4, _, _⟩ := h
  unfold steps at hz
  split at hz
  · obtain ⟨z1, z2, z3⟩ := st_pos h1 h2 hz
    exact ⟨z1, by rw [z3]; exact h2, big_le h3 (by omega) (by omega), by rw [z3]; exact h4⟩
  · obtain ⟨y, hy, rfl⟩ := List.mem_map.mp hz
    obtain ⟨z1, z2, z3⟩ := st_pos h2 h1 hy
    exact ⟨by show 0 < y.2; rw [z3]; exact h1, z1, by show big 1000 y.2; rw [z3]; exact h3, big_le h4 (by show 0 ≤ y.1; omega) (by show y.1 ≤ _; omega)⟩
theorem alike_pI (z y : Int × Int) : PySem.W.alike (pI z) (pI y) = true := by simp [pI, PySem.W.alike, PySem.W.alikeAll]
theorem dep_pI (z : Int × Int) : (pI z).depth = 1 := by simp [pI, PyData.depth, PyData.depthAll]
theorem c_moves (D : Dfn K mg "quotient_moves" s_quotient_moves ["a", "b"]) (cs : Cal P w K mg base 1 "quotient_steps" (preOf aQV okQ) (relOf aQV okQ (fun x => .d (.list ((steps x.1 x.2).map pI))) (fun _ => [])))
    (cv : Cal P w K mg base 1 "quotient_value" (preOf aQV okQV) (relOf aQV okQV (fun x => .d (.int (qv x.1 x.2))) (fun _ => []))) (ms : mg "sorted" = none) (mt : mg "tuple" = none) :
    Cal P w K mg base 2 "quotient_moves" (preOf aQV okQ) (relOf aQV okQ (fun x => .d (.tuple (srt ((wins x.1 x.2).map pI)))) (fun _ => [])) := by
  refine zfunS D sc_quotient_moves (fun _ => rfl) (fun x y _ _ e => by simp [aQV] at e; simp [e]) fun f cdv Ar outer s H E y hy hr => ?_
  obtain ⟨a, b⟩ := y
  have hu := hr.units
  have hlen : (steps a b).length < sizeLine := by
    have sz : (2 : Int) ^ 23 < sizeLine := by decide
    obtain ⟨h1, h2, h3, h4, h5, h6⟩ : 0 < a ∧ 0 < b ∧ big 1000 a ∧ big 1000 b ∧ (a - 1) / b < 2 ^ 23 ∧ (b - 1) / a < 2 ^ 23 := hy
    unfold steps stL stN
    split <;> simp <;> omega
  refine zss_ret (ze_tupOfL (ds := srt ((wins a b).map pI)) (.d _) (za_cons (ze_sorted (ds := (wins a b).map pI) (.d _) (za_cons (ZE.to (ze_lcP (fun x => x) isW (vs := [2]) (zi_list (ze_callS (a, b) cs (za_cons (ze_var 0 rfl) (za_cons (ze_var 1 rfl) za_nil)) hy rfl hr)) (fun x hx => ?_) (by rw [List.length_map]; exact hlen) sc_quotient_moves.nd (blkOk_by (own := [("pair", 2)]) (by kernel_rfl))) ?_ rfl) za_nil) ?_ ?_ ?_ ms) za_nil) mt) ⟨rfl, rfl⟩
  · obtain ⟨z, hz, rfl⟩ := List.mem_map.mp hx
    have hq := steps_ok hy hz
    refine ⟨_, fun z => zg_name 2 (lt_of rfl) sc_quotient_moves.nd, rfl, fun z' => zts_one (zt_eqI (ze_callS z cv (za_cons (ze_ixT (.d (pI z)) rfl (ze_var 2 rfl) ze_int) (za_cons (ze_ixT (.d (pI z)) rfl (ze_var 2 rfl) ze_int) za_nil)) hq rfl hr) ze_int), fun _ z' => ze_var 2 rfl⟩
  · rw [List.map_id', isW_map]
    rfl
  · exact PySem.W.AllAlike.of alike_pI
  · exact PySem.W.Sortable.tuples fun b => ⟨_, _, rfl⟩
  · intro d hd
    obtain ⟨z, hz, rfl⟩ := List.mem_map.mp hd
    rw [dep_pI]
    have : (Ar.deeper (envOfC (Str.ofString "quotient_moves") (defScope s_quotient_moves) s.heap.objs.size f cdv)).units + 64 < cLine := hu
    show (Ar.deeper (envOfC (Str.ofString "quotient_moves") (defScope s_quotient_moves) s.heap.objs.size f cdv)).units + 2 + 1 < cLine
    omega
end
end K67

namespace K67
open PySem L2 PyProof.Rows Z
section
variable {P : Program} {w : World} {K : PySem.W.Frag} {mg : Str → Option Value} {base : Heap}
def okM : Int × Int → Prop := fun z => 0 < z.1 ∧ 0 < z.2 ∧ (z.1 - 1) / z.2 < 2 ^ 23
abbrev rM : Int × Int → IT := fun z => .d (.list ((stL z.1 z.2).map pI))
theorem st_take {a b : Int} {i : Nat} (hi : i < stN a b) : (stL a b).take (i + 1) = (stL a b).take i ++ [(a - (1 + (i : Int)) * b, b)] := by
  rw [List.take_add_one]
  congr 1
  unfold stL
  rw [List.getElem?_map, List.getElem?_range hi]
  rfl
theorem st_more {a b : Int} (ha : 0 < a) (hb : 0 < b) (i : Nat) : b < a - i * b ↔ i < stN a b := by
  unfold stN
  have h : (1 + (i : Int)) ≤ (a - 1) / b ↔ (1 + (i : Int)) * b ≤ a - 1 := Int.le_ediv_iff_mul_le hb
  have e : (1 + (i : Int)) * b = b + i * b := by rw [Int.add_mul, Int.one_mul]
  rw [e] at h
  constructor
  · intro h1
    have := h.mpr (by omega)
    omega
  · intro h1
    have := h.mp (by omega)
    omega
theorem c_lm (D : Dfn K mg "_law_moves" s__law_moves ["a", "b"]) : Cal P w K mg base 1 "_law_moves" (preOf aQV okM) (relOf aQV okM rM (fun _ => [])) := by
  refine zfunS D sc__law_moves (fun _ => rfl) (fun x y _ _ e => by simp [aQV] at e; simp [e]) fun f cdv Ar outer s H E y hy hr => ?_
  obtain ⟨a, b⟩ := y
  obtain ⟨h1, h2, h3⟩ : 0 < a ∧ 0 < b ∧ (a - 1) / b < 2 ^ 23 := hy
  have sz : (2 : Int) ^ 23 < sizeLine := by decide
  have hN : stN a b < sizeLine := by unfold stN; omega
  refine zss_set 2 (ze_lst (ds := []) za_nil) (lt_of rfl) ?_ sc__law_moves.nd
  refine zss_while 1 (Nat.zero_le _) (Nat.le_refl _) (fun m t => ∃ i, m + i = stN a b ∧ t = ⟨[.d (.int (a - (i : Nat) * b)), .d (.int b), .r 0], [OL (((stL a b).take i).map pI)]⟩) (stN a b) ⟨0, rfl, by rw [show a - ((0 : Nat) : Int) * b = a by simp]; rfl⟩ (M := fun t => ∃ r, t = ⟨[r, .d (.int b), .r 0], [OL ((stL a b).map pI)]⟩) (fun m t ⟨i, hi, ht⟩ => ?_) (fun t ht => ?_) PassesOwn.never
  · subst ht
    refine ⟨_, zt_gt (ze_var 0 rfl) (ze_var 1 rfl), fun t' ⟨e1, e2⟩ => ?_, fun t' ⟨e1, e2⟩ => ?_⟩
    · subst e2
      have hlt : i < stN a b := (st_more h1 h2 i).mp (of_decide_eq_true e1.symm)
      refine zss_set 0 (ze_sub (ze_var 0 rfl) (ze_var 1 rfl)) (lt_of rfl) ?_ sc__law_moves.nd
      refine zss_app (ze_var 2 rfl) (ze_tup (ds := [.int (a - i * b - b), .int b]) (za_cons (ze_var 0 rfl) (za_cons (ze_var 1 rfl) za_nil))) rfl rfl (by simp; omega) (zss_nil ⟨m - 1, by omega, i + 1, by omega, ?_⟩)
      have e : a - i * b - b = a - ((i + 1 : Nat) : Int) * b := by
        rw [show ((i + 1 : Nat) : Int) = (i : Int) + 1 by omega, Int.add_mul, Int.one_mul]
        omega
      have e2 : ((1 : Int) + (i : Int)) = ((i + 1 : Nat) : Int) := by omega
      rw [st_take hlt, List.map_append, e2]
      show (⟨[.d (.int (a - i * b - b)), .d (.int b), .r 0], [OL (_ ++ [.tuple [.int (a - i * b - b), .int b]])]⟩ : S) = _
      rw [e]
      rfl
    · subst e2
      have hge : ¬ i < stN a b := fun h => by
        have := (st_more h1 h2 i).mpr h
        exact absurd this (of_decide_eq_false e1.symm)
      refine ⟨.d (.int (a - (i : Nat) * b)), ?_⟩
      have : (stL a b).take i = stL a b := List.take_of_length_le (by unfold stL; simp; omega)
      rw [this]
  · obtain ⟨r, rfl⟩ := ht
    exact zss_ret (ze_var 2 rfl) ⟨Nat.zero_le _, .inr ⟨_, rfl, rfl⟩, rfl⟩
theorem st_lt {a b : Int} (ha : 0 < a) (hb : 0 < b) {z : Int × Int} (h : z ∈ stL a b) : b < a := by
  unfold stL stN at h
  obtain ⟨k, hk, rfl⟩ := List.mem_map.mp h
  have hk : k < ((a - 1) / b).toNat := by simpa using hk
  have h1 : (1 + (k : Int)) ≤ (a - 1) / b := by omega
  have h2 := (Int.le_ediv_iff_mul_le hb).mp h1
  have h3 : b ≤ (1 + (k : Int)) * b := by
    have := Int.mul_le_mul_of_nonneg_right (show (1 : Int) ≤ 1 + k by omega) (show 0 ≤ b by omega)
    omega
  omega
/-! ### the law's own values -/
def fV (k v : PyData) : Prop := ∃ a b : Int, 0 < b ∧ b ≤ a ∧ a ≤ 200 ∧ k = pI (a, b) ∧ v = .int (qv a b)
def UV : List PyData := (List.range 201).flatMap fun a => (List.range 201).map fun b => pI ((a : Nat), (b : Nat))
theorem UV_len : UV.length < sizeLine := by
  unfold UV
  rw [List.length_flatMap]
  simp
  decide
theorem UV_in {k v : PyData} (h : fV k v) : k ∈ UV := by
  obtain ⟨a, b, h1, h2, h3, rfl, _⟩ := h
  unfold UV
  rw [List.mem_flatMap]
  refine ⟨a.toNat, by simp; omega, List.mem_map.mpr ⟨b.toNat, by simp; omega, ?_⟩⟩
  show pI (_, _) = pI (_, _)
  rw [Int.toNat_of_nonneg (by omega), Int.toNat_of_nonneg (by omega)]
theorem fV_fn {a b : Int} {y : PyData} (h : fV (.tuple [.int a, .int b]) y) : y = .int (qv a b) := by
  obtain ⟨a', b', _, _, _, e, rfl⟩ := h
  have e1 : a = a' ∧ b = b' := by simpa [pI] using e
  rw [e1.1, e1.2]
def aV (P : Program) (w : World) : Int × Int → List IT := fun z => [.d (.int z.1), .d (.int z.2), .o (OM P w fV)]
def okV (n : Nat) : Int × Int → Prop := fun z => 0 < z.1 ∧ 0 < z.2 ∧ z.1 ≤ 200 ∧ z.2 ≤ 200 ∧ z.1 ≤ n ∧ z.2 ≤ n
abbrev rV : Int × Int → IT := fun z => .d (.int (qv z.1 z.2))
def oV (P : Program) (w : World) : Int × Int → List Own := fun _ => [OM P w fV]
def W (a b : Int) : List PyData := (stL a b).map fun z => .int (qv z.1 z.2)
theorem W_plain (l : List (Int × Int)) : PyData.plainAll (l.map fun z => .int (qv z.1 z.2)) = true := by
  induction l with
  | nil => rfl
  | cons z l ih => exact ih
theorem W_depth (l : List (Int × Int)) : PyData.depthAll (l.map fun z => .int (qv z.1 z.2)) = 0 := by
  induction l with
  | nil => rfl
  | cons z l ih =>
    show PyData.depthAll (PyData.int _ :: _) = 0
    simp only [PyData.depthAll, PyData.depth, ih, Nat.max_self]
/-- a value below is told behind a move, the value itself is not -/
theorem W_any {a b : Int} (hb : 0 < b) (h : b ≤ a) {v : Int} (hv : 0 ≤ v) (hle : v ≤ qv a b) : ((W a b).any fun z => PyData.eqv z (.int v)) = decide (v < qv a b) := by
  -- a = J b + r
  obtain ⟨J, r, hJ, hr, hrb, e⟩ : ∃ J r : Int, 0 ≤ J ∧ 0 < r ∧ r ≤ b ∧ a = J * b + r := by
    refine ⟨(a - 1) / b, (a - 1) % b + 1, Int.ediv_nonneg (by omega) (by omega), by have := Int.emod_nonneg (a - 1) (show b ≠ 0 by omega); omega, by have := Int.emod_lt_of_pos (a - 1) hb; omega, ?_⟩
    have := Int.mul_ediv_add_emod (a - 1) b
    rw [Int.mul_comm] at this
    omega
  have hN : (stN a b : Int) = J := by
    unfold stN
    have e1 : (a - 1) / b = J := by
      rw [e, show J * b + r - 1 = (r - 1) + J * b by omega, Int.add_mul_ediv_right _ _ (by omega), Int.ediv_eq_zero_of_lt (by omega) (by omega)]
      omega
    rw [e1]
    omega
  have mem : ∀ j, 0 ≤ j → j < J → (j * b + r, b) ∈ stL a b := fun j h1 h2 => by
    unfold stL
    refine List.mem_map.mpr ⟨(J - 1 - j).toNat, by simp; omega, ?_⟩
    rw [Int.toNat_of_nonneg (by omega)]
    have : a - (1 + (J - 1 - j)) * b = j * b + r := by
      rw [e, show 1 + (J - 1 - j) = J - j by omega, Int.sub_mul]
      omega
    rw [this]
  have mem2 : ∀ z ∈ stL a b, ∃ j, 0 ≤ j ∧ j < J ∧ z = (j * b + r, b) := fun z hz => by
    unfold stL at hz
    obtain ⟨k, hk, rfl⟩ := List.mem_map.mp hz
    have hk : k < stN a b := by simpa using hk
    refine ⟨J - 1 - k, by omega, by omega, ?_⟩
    have : a - (1 + (k : Int)) * b = (J - 1 - k) * b + r := by
      rw [e, show (J - 1 - (k : Int)) = J - (1 + k) by omega, Int.sub_mul]
      omega
    rw [this]
  obtain ⟨m1, m2⟩ := qv_mex hr hrb hJ fun e0 => by subst e0; omega
  rw [← e] at m1 m2
  unfold W
  rw [List.any_map, Bool.eq_iff_iff, List.any_eq_true, decide_eq_true_eq]
  constructor
  · rintro ⟨z, hz, hq⟩
    obtain ⟨j, j1, j2, rfl⟩ := mem2 z hz
    have hq : qv (j * b + r) b = v := by simpa [PyData.eqv] using hq
    have := m2 j j1 j2
    omega
  · intro hlt
    obtain ⟨j, j1, j2, j3⟩ := m1 v hv hlt
    exact ⟨_, mem j j1 j2, by simpa [PyData.eqv] using j3⟩
theorem value_body (D : Dfn K mg "_law_value" s__law_value ["a", "b", "met"]) (cm : Cal P w K mg base 1 "_law_moves" (preOf aQV okM) (relOf aQV okM rM (fun _ => []))) (n : Nat) (ih : ∀ j, n = j + 1 → Cal P w K mg base (j + 2) "_law_value" (preOf (aV P w) (okV j)) (relOf (aV P w) (okV j) rV (oV P w))) :
    Cal P w K mg base (n + 2) "_law_value" (preOf (aV P w) (okV n)) (relOf (aV P w) (okV n) rV (oV P w)) := by
  refine zfunS D sc__law_value (fun _ => rfl) (fun x y _ _ e => by simp [aV] at e; simp [rV, oV, e]) fun f cdv Ar outer s H E y hy hr => ?_
  obtain ⟨a, b⟩ := y
  obtain ⟨h1, h2, h3, h4, h5, h6⟩ : 0 < a ∧ 0 < b ∧ a ≤ 200 ∧ b ≤ 200 ∧ a ≤ n ∧ b ≤ n := hy
  have hu20 : (Ar.deeper (envOfC (Str.ofString "_law_value") (defScope s__law_value) s.heap.objs.size f cdv)).units + 20 < cLine := Nat.lt_of_le_of_lt (Nat.add_le_add_left (by decide) _) hr.units
  have hu := hr.units
  obtain ⟨A, B, a1, a2, a3, a4, a5⟩ : ∃ A B : Int, 0 < B ∧ B ≤ A ∧ A ≤ 200 ∧ A ≤ n ∧ (A, B) = if a < b then (b, a) else (a, b) := by
    by_cases h : a < b
    · exact ⟨b, a, h1, by omega, h4, h6, by rw [if_pos h]⟩
    · exact ⟨a, b, h2, by omega, h3, h5, by rw [if_neg h]⟩
  have hq : qv A B = qv a b := by
    split at a5
    · cases a5
      exact qv_comm _ _
    · cases a5
      rfl
  refine zss_ifI (k := decide (a < b)) (M := fun t => t = ⟨[.d (.int A), .d (.int B), .r 0, .un, .un, .un, .un], [OM P w fV]⟩) (zt_lt (ze_var 0 rfl) (ze_var 1 rfl)) (fun h => ?_) (fun h => ?_) fun t e => ?_
  · rw [if_pos (of_decide_eq_true h)] at a5
    cases a5
    exact zss_par2 0 1 (za_cons (ze_var 1 rfl) (za_cons (ze_var 0 rfl) za_nil)) (lt_of rfl) (lt_of rfl) (zss_nil rfl) sc__law_value.nd
  · rw [if_neg (of_decide_eq_false h)] at a5
    cases a5
    exact zss_nil rfl
  subst e
  refine zss_if (M := fun t => ∃ r3 r4 r5 r6, t = ⟨[.d (.int A), .d (.int B), .r 0, r3, r4, r5, r6], [OMk P w fV (.tuple [.int A, .int B])]⟩) (zt_nin (o := 0) rfl (ze_tup (ds := [.int A, .int B]) (za_cons (ze_var 0 rfl) (za_cons (ze_var 1 rfl) za_nil))) (ze_var 2 rfl) rfl (Nat.le_of_ble_eq_true rfl) hu20) (fun t ht => ?_) (fun t ht => ?_) (fun t ht => ?_)
  · rw [if_pos rfl] at ht
    subst ht
    have hs : (stL A B).length = stN A B := by unfold stL; simp
    have hdv : (A - 1) / B ≤ A - 1 := Int.ediv_le_self _ (by omega)
    have hsN : stN A B < 200 := by unfold stN; omega
    have sz : 200 < sizeLine := by decide
    obtain ⟨j, rfl⟩ : ∃ j, n = j + 1 := ⟨n - 1, by omega⟩
    refine zss_setLcD (vs := [4, 5]) (acc0 := W A B) (R0 := [OM P w fV]) 3 (zi_list (ze_callS (A, B) cm (za_cons (ze_var 0 rfl) (za_cons (ze_var 1 rfl) za_nil)) ⟨by show 0 < A; omega, a1, by show (A - 1) / B < _; omega⟩ rfl hr)) (fun i acc R => acc = (W A B).take i ∧ R = [OM P w fV]) ⟨rfl, rfl⟩ (fun i x acc R hx ⟨e1, e2⟩ => ?_) (fun acc R ⟨e1, e2⟩ => ⟨by
      rw [e1, List.length_map, List.take_of_length_le (by unfold W; rw [List.length_map]; exact Nat.le_refl _)], e2⟩) (by rw [List.length_map]; show (stL A B).length < sizeLine; omega) sc__law_value.nd (blkOk_by (own := [("x", 4), ("y", 5)]) (by kernel_rfl)) (lt_of rfl) ?_
    · subst e1 e2
      rw [List.getElem?_map] at hx
      obtain ⟨z, hz, rfl⟩ := Option.map_eq_some_iff.mp hx
      obtain ⟨z1, z2, z3⟩ := st_pos (by omega) a1 (List.mem_of_getElem? hz)
      refine ⟨_, Is true _, fun z' => zg_tup (zgs_cons (zg_name 4 (lt_of rfl) sc__law_value.nd) (zgs_cons (zg_name 5 (lt_of rfl) sc__law_value.nd) zgs_nil)), fun z' => zts_nil, fun t2 ⟨e1, _⟩ => (nomatch e1), fun t2 ⟨_, e2⟩ => ?_⟩
      subst e2
      refine ⟨.int (qv z.1 z.2), _, fun z' => ze_callS1 z (ih j rfl) (za_cons (ze_var 4 rfl) (za_cons (ze_var 5 rfl) (za_cons (ze_var 2 rfl) za_nil))) ⟨z1, by omega, by omega, by omega, by have := st_lt (show 0 < A by omega) a1 (List.mem_of_getElem? hz); rw [z3]; omega⟩ rfl rfl rfl hr, ?_, rfl⟩
      unfold W
      rw [List.take_add_one, List.getElem?_map, hz]
      rfl
    · refine zss_set 6 ze_int (lt_of rfl) ?_ sc__law_value.nd
      refine zss_while 1 (Nat.le_refl _) (Nat.le_refl _) (fun m t => ∃ v : Nat, (m : Int) + v = qv A B ∧ t = ⟨[.d (.int A), .d (.int B), .r 0, .d (.list (W A B)), .un, .un, .d (.int v)], [OM P w fV]⟩) (qv A B).toNat ⟨0, by have := (qv_spec a1 a2).2.2; omega, rfl⟩ (M := fun t => t = ⟨[.d (.int A), .d (.int B), .r 0, .d (.list (W A B)), .un, .un, .d (.int (qv A B))], [OM P w fV]⟩) (fun m t ⟨v, hv, ht⟩ => ?_) (fun t ht => ?_) PassesOwn.never
      · subst ht
        refine ⟨Is (decide ((v : Int) < qv A B)) _, ZT.imp (zt_inZ (.d (.int v)) (.d (.list (W A B))) (.inl rfl) (ze_var 6 rfl) (ze_var 3 rfl) (W_plain _) rfl (by
          unfold W
          rw [W_depth]
          show (Ar.deeper (envOfC (Str.ofString "_law_value") (defScope s__law_value) s.heap.objs.size f cdv)).units + 1 + min 0 _ < cLine
          rw [Nat.zero_min]
          omega)) fun b t ⟨e1, e2⟩ => ⟨by rw [e1, W_any a1 a2 (by omega) (by omega)], e2⟩, fun t' ⟨e1, e2⟩ => ?_, fun t' ⟨e1, e2⟩ => ?_⟩
        · subst e2
          have hlt := of_decide_eq_true e1.symm
          refine zss_set 6 (ze_add (ze_var 6 rfl) ze_int) (lt_of rfl) (zss_nil ⟨m - 1, by omega, v + 1, by omega, rfl⟩) sc__law_value.nd
        · have hge := of_decide_eq_false e1.symm
          have e : (v : Int) = qv A B := by omega
          rw [e2, e]
      · subst ht
        refine zss_memo (U := UV) (ze_var 6 rfl) (ze_var 2 rfl) (ze_tup (ds := [.int A, .int B]) (za_cons (ze_var 0 rfl) (za_cons (ze_var 1 rfl) za_nil))) rfl ⟨A, B, a1, a2, a3, rfl, rfl⟩ (fun k v => UV_in) UV_len rfl (Nat.le_of_ble_eq_true rfl) hu20 (zss_nil ⟨_, _, _, _, rfl⟩)
  · rw [if_neg Bool.false_ne_true] at ht
    subst ht
    exact zss_nil ⟨_, _, _, _, rfl⟩
  · obtain ⟨r3, r4, r5, r6, rfl⟩ := ht
    refine zss_ret (ze_memo (o := 0) rfl (fun y => fV_fn) (ze_var 2 rfl) (ze_tup (ds := [.int A, .int B]) (za_cons (ze_var 0 rfl) (za_cons (ze_var 1 rfl) za_nil))) rfl (Nat.le_of_ble_eq_true rfl) hu20) ⟨?_, rfl⟩
    show IT.d (.int (qv a b)) = _
    rw [← hq]
theorem c_value (D : Dfn K mg "_law_value" s__law_value ["a", "b", "met"]) (cm : Cal P w K mg base 1 "_law_moves" (preOf aQV okM) (relOf aQV okM rM (fun _ => []))) : ∀ n : Nat,
    Cal P w K mg base (n + 2) "_law_value" (preOf (aV P w) (okV n)) (relOf (aV P w) (okV n) rV (oV P w))
  | 0 => value_body D cm 0 fun j h => by cases h
  | n + 1 => value_body D cm (n + 1) fun j h => by cases h; exact c_value D cm n
/-! ### by halving -/
theorem far_hi {a b : Int} (hb : 0 < b) (h : b ≤ a) : a * a - b * b < (a + 1) * (a * b) := by
  have h1 : 0 < a * a := Int.mul_pos (by omega) (by omega)
  have h2 : a * a * 1 ≤ a * a * b := Int.mul_le_mul_of_nonneg_left (by omega) (by omega)
  have h3 : 0 < b * b := Int.mul_pos hb hb
  have h4 : 0 < a * b := Int.mul_pos (by omega) hb
  have e : (a + 1) * (a * b) = a * a * b + a * b := by grind
  omega
theorem cmulG {n m : Nat} {i j : Int} (hi : big n i) (hj : big m j) (h : 0 < n ∧ 0 < m ∧ n + m ≤ 1000000) : CMulW i j := wide_mul hi hj h.1 h.2.1 h.2.2
def okF : Int × Int → Prop := fun z => 0 < z.1 ∧ 0 < z.2 ∧ big 1000 z.1 ∧ big 1000 z.2
theorem c_far (D : Dfn K mg "_law_far" s__law_far ["a", "b"]) (m1 : mg "max" = none) (m2 : mg "min" = none) :
    Cal P w K mg base 1 "_law_far" (preOf aQV okF) (relOf aQV okF (fun x => .d (.int (qv x.1 x.2))) (fun _ => [])) := by
  refine zfunS D sc__law_far (fun _ => rfl) (fun x y _ _ e => by simp [aQV] at e; simp [e]) fun f cdv Ar outer s H E y hy hr => ?_
  obtain ⟨a, b⟩ := y
  obtain ⟨h1, h2, h3, h4⟩ : 0 < a ∧ 0 < b ∧ big 1000 a ∧ big 1000 b := hy
  generalize hA : (if b > a then b else a) = A
  generalize hB : (if b < a then b else a) = B
  have hAB : 0 < B ∧ B ≤ A ∧ big 1000 A ∧ big 1000 B ∧ A * B = a * b ∧ qv A B = qv a b := by
    by_cases h : b < a
    · rw [if_neg (by omega)] at hA
      rw [if_pos h] at hB
      subst hA hB
      exact ⟨h2, by omega, h3, h4, rfl, rfl⟩
    · rw [if_neg h] at hB
      by_cases h' : b > a
      · rw [if_pos h'] at hA
        subst hA hB
        exact ⟨h1, by omega, h4, h3, Int.mul_comm _ _, qv_comm _ _⟩
      · rw [if_neg h'] at hA
        have : a = b := by omega
        subst hA hB this
        exact ⟨h1, by omega, h3, h4, rfl, rfl⟩
  obtain ⟨b1, b2, b3, b4, b5, b6⟩ := hAB
  have hp : 0 < a * b := Int.mul_pos h1 h2
  have mu2 : ∀ {m : Int}, 0 ≤ m → m ≤ A → big 1000 m := fun h0 h => big_le b3 h0 h
  refine zss_par2 2 3 (za_cons ze_int (za_cons (ze_add (ZE.to (ze_max2 (za_cons (ze_var 0 rfl) (za_cons (ze_var 1 rfl) za_nil)) m1) (by rw [hA]) rfl) ze_int) za_nil)) (lt_of rfl) (lt_of rfl) ?_ sc__law_far.nd
  refine zss_set 4 (ze_sub (ze_mulW (cmul b3 b3) (ZE.to (ze_max2 (za_cons (ze_var 0 rfl) (za_cons (ze_var 1 rfl) za_nil)) m1) (by rw [hA]) rfl) (ZE.to (ze_max2 (za_cons (ze_var 0 rfl) (za_cons (ze_var 1 rfl) za_nil)) m1) (by rw [hA]) rfl)) (ze_mulW (cmul b4 b4) (ZE.to (ze_min2 (za_cons (ze_var 0 rfl) (za_cons (ze_var 1 rfl) za_nil)) m2) (by rw [hB]) rfl) (ZE.to (ze_min2 (za_cons (ze_var 0 rfl) (za_cons (ze_var 1 rfl) za_nil)) m2) (by rw [hB]) rfl))) (lt_of rfl) ?_ sc__law_far.nd
  have hsq := sq_le b1 b2
  refine zss_while 0 (Nat.le_refl _) (Nat.zero_le _) (fun m t => ∃ lo hi r5, m = (hi - lo).toNat ∧ 0 ≤ lo ∧ lo < hi ∧ hi ≤ A + 1 ∧ lo * (a * b) ≤ A * A - B * B ∧ A * A - B * B < hi * (a * b) ∧ t = ⟨[.d (.int a), .d (.int b), .d (.int lo), .d (.int hi), .d (.int (A * A - B * B)), r5], []⟩) (A + 1 - 0).toNat
    ⟨0, A + 1, .un, rfl, Int.le_refl _, by omega, Int.le_refl _, by rw [Int.zero_mul]; omega, by rw [← b5]; exact far_hi b1 b2, rfl⟩ (M := fun t => ∃ r3 r5, t = ⟨[.d (.int a), .d (.int b), .d (.int (qv a b)), r3, .d (.int (A * A - B * B)), r5], []⟩) (fun m t ⟨lo, hi, r5, e0, c1, c2, c3, c4, c5, ht⟩ => ?_) (fun t ht => ?_) PassesOwn.never
  · subst ht
    refine ⟨_, zt_gt (ze_sub (ze_var 3 rfl) (ze_var 2 rfl)) ze_int, fun t' ⟨e1, e2⟩ => ?_, fun t' ⟨e1, e2⟩ => ?_⟩
    · subst e2
      have hlt : 1 < hi - lo := of_decide_eq_true e1.symm
      have d1 : lo < (lo + hi) / 2 := by omega
      have d2 : (lo + hi) / 2 < hi := by omega
      refine zss_set 5 (ze_div ⟨by decide, by decide⟩ (ze_add (ze_var 2 rfl) (ze_var 3 rfl)) ze_int) (lt_of rfl) ?_ sc__law_far.nd
      generalize (lo + hi) / 2 = mid at d1 d2
      have bm : big 1000 mid := mu2 (by omega) (by omega)
      refine zss_ifI (k := decide (mid * a * b ≤ A * A - B * B)) (M := fun t => ∃ m', m' < m ∧ ∃ lo hi r5, m' = (hi - lo).toNat ∧ 0 ≤ lo ∧ lo < hi ∧ hi ≤ A + 1 ∧ lo * (a * b) ≤ A * A - B * B ∧ A * A - B * B < hi * (a * b) ∧ t = ⟨[.d (.int a), .d (.int b), .d (.int lo), .d (.int hi), .d (.int (A * A - B * B)), r5], []⟩)
        (zt_le (ze_mulW (cmulG (big_mul bm h3) h4 (by decide)) (ze_mulW (cmul bm h3) (ze_var 5 rfl) (ze_var 0 rfl)) (ze_var 1 rfl)) (ze_var 4 rfl)) (fun h => ?_) (fun h => ?_) (fun t ht => zss_nil ht)
      · have h : mid * a * b ≤ A * A - B * B := of_decide_eq_true h
        rw [Int.mul_assoc] at h
        refine zss_set 2 (ze_var 5 rfl) (lt_of rfl) (zss_nil ⟨(hi - mid).toNat, by omega, mid, hi, .d (.int mid), rfl, by omega, by omega, c3, h, c5, rfl⟩) sc__law_far.nd
      · have h : ¬ mid * a * b ≤ A * A - B * B := of_decide_eq_false h
        rw [Int.mul_assoc] at h
        refine zss_set 3 (ze_var 5 rfl) (lt_of rfl) (zss_nil ⟨(mid - lo).toNat, by omega, lo, mid, .d (.int mid), rfl, by omega, by omega, by omega, c4, by omega, rfl⟩) sc__law_far.nd
    · have hge : ¬ 1 < hi - lo := of_decide_eq_false e1.symm
      have eh : hi = lo + 1 := by omega
      rw [eh] at c5
      have : qv a b = lo := by
        rw [← b6]
        exact qv_of b1 b2 (by rw [b5]; exact c4) (by rw [b5]; exact c5)
      subst e2
      exact ⟨_, _, by rw [this]⟩
  · obtain ⟨r3, r5, rfl⟩ := ht
    exact zss_ret (ze_var 2 rfl) ⟨rfl, rfl⟩
end
end K67

namespace K67
open PySem L2 PyProof.Rows Z
def leP (p q : Int × Int) : Bool := decide (p.1 < q.1 ∨ (p.1 = q.1 ∧ p.2 ≤ q.2))
def sP (l : List (Int × Int)) : List (Int × Int) := l.mergeSort leP
theorem srt_pI (l : List (Int × Int)) : srt (l.map pI) = (sP l).map pI := by
  unfold srt sP
  refine (List.map_mergeSort (r := leP) (s := PySem.W.dataLe false id) (f := pI) (l := l) fun p _ q _ => ?_).symm
  have := congrFun (congrFun (PySem.W.dataLe_ii (β := Int × Int) (fun z => z.1) (fun z => z.2)) p) q
  exact this.symm
theorem sP_perm (l : List (Int × Int)) : (sP l).Perm l := List.mergeSort_perm _ _
theorem sP_eq {l m : List (Int × Int)} (h : l.Perm m) : sP l = sP m := by
  have ps : ∀ l : List (Int × Int), (sP l).Pairwise (fun a b => leP a b = true) := fun l => List.pairwise_mergeSort (fun a b c h1 h2 => by simp [leP] at *; omega) (fun a b => by simp [leP]; omega) l
  refine List.Perm.eq_of_pairwise (le := fun a b => leP a b = true) (fun a b _ _ h1 h2 => ?_) (ps l) (ps m) ((sP_perm l).trans (h.trans (sP_perm m).symm))
  simp [leP] at h1 h2
  exact Prod.ext (by omega) (by omega)
def sw (z : Int × Int) : Int × Int := (z.2, z.1)
theorem steps_ge {a b : Int} (h : b ≤ a) : steps a b = stL a b := by unfold steps; rw [if_pos h]
theorem stL_self {a : Int} (ha : 0 < a) : stL a a = [] := by
  unfold stL stN
  rw [Int.ediv_eq_zero_of_lt (by omega) (by omega)]
  rfl
theorem wins_sw {a b : Int} (hb : 0 < b) (h : b ≤ a) : wins b a = (wins a b).map sw := by
  unfold wins
  rw [steps_ge h]
  by_cases e : a = b
  · subst e
    rw [steps_ge (Int.le_refl _), stL_self hb]
    rfl
  · unfold steps
    rw [if_neg (by omega), List.filter_map]
    congr 1
    refine List.filter_congr fun z _ => ?_
    show decide (qv z.2 z.1 = 0) = _
    rw [qv_comm]
theorem wins_nil {a b : Int} (ha : 0 < a) (hb : 0 < b) : (wins a b).length = 0 ↔ qv a b = 0 := by
  have key : ∀ {a b : Int}, 0 < b → b ≤ a → ((wins a b).length = 0 ↔ qv a b = 0) := fun {a b} hb h => by
    have h0 := (qv_spec hb h).2.2
    have h1 := W_any hb h (Int.le_refl 0) h0
    unfold wins
    rw [steps_ge h, List.length_eq_zero_iff, List.filter_eq_nil_iff]
    unfold W at h1
    rw [List.any_map] at h1
    constructor
    · intro h2
      rcases Int.lt_or_le 0 (qv a b) with h3 | h3
      · rw [decide_eq_true h3, List.any_eq_true] at h1
        obtain ⟨z, hz, hq⟩ := h1
        exact absurd (by simpa [PyData.eqv] using hq) (h2 z hz)
      · omega
    · intro h2 z hz hq
      rw [decide_eq_false (by omega), List.any_eq_false] at h1
      exact h1 z hz (by simpa [PyData.eqv] using hq)
  rcases Int.le_total b a with h | h
  · exact key hb h
  · rw [wins_sw ha h, List.length_map, key ha h, qv_comm]
theorem stL_len {a b : Int} : (stL a b).length = stN a b := by unfold stL; simp
theorem wins_len {a b : Int} (h : okQ (a, b)) : (wins a b).length < 2 ^ 23 := by
  obtain ⟨h1, h2, h3, h4, h5, h6⟩ : 0 < a ∧ 0 < b ∧ big 1000 a ∧ big 1000 b ∧ (a - 1) / b < 2 ^ 23 ∧ (b - 1) / a < 2 ^ 23 := h
  unfold wins steps
  refine Nat.lt_of_le_of_lt (List.length_filter_le _ _) ?_
  split <;> simp [stL_len, stN] <;> omega
theorem wins_mem {a b : Int} {z : Int × Int} (h : z ∈ wins a b) : z ∈ steps a b ∧ qv z.1 z.2 = 0 := by
  have := List.mem_filter.mp h
  exact ⟨this.1, by simpa using this.2⟩
theorem nars_pI (l : List (Int × Int)) : nars (l.map pI) = true := by
  induction l with
  | nil => rfl
  | cons z l ih =>
    show nars (pI z :: l.map pI) = true
    simp only [nars, ih, Bool.and_true]
    show (decide (2 < sizeLine) && true) = true
    decide
theorem plain_pI (l : List (Int × Int)) : PyData.plainAll (l.map pI) = true := by
  induction l with
  | nil => rfl
  | cons z l ih => exact ih
theorem deps_pI (l : List (Int × Int)) : PyData.depthAll (l.map pI) ≤ 1 := by
  induction l with
  | nil => simp [PyData.depthAll]
  | cons z l ih =>
    show PyData.depthAll (pI z :: l.map pI) ≤ 1
    simp only [PyData.depthAll, dep_pI]
    omega
theorem nar_tup {l : List (Int × Int)} (h : l.length < 2 ^ 24) : nar (.tuple (l.map pI)) = true := by
  simp only [nar, nars_pI, Bool.and_true, List.length_map]
  exact decide_eq_true h
/-- the moves of the other row -/
theorem rev_pI (l : List (Int × Int)) : (l.map pI).map (fun x => match x with | .tuple ds => PyData.tuple ds.reverse | y => y) = (l.map sw).map pI := by
  rw [List.map_map, List.map_map]
  rfl
theorem fib_big {i : Nat} {x : Int} (h0 : 0 < x) (h : x ≤ 2 ^ (i + 1)) (hi : i ≤ 145) : big 1000 x := by
  unfold big
  have h1 : x.natAbs ≤ 2 ^ (i + 1) := by
    have : ((2 ^ (i + 1) : Nat) : Int) = 2 ^ (i + 1) := by simp
    omega
  exact Nat.lt_of_le_of_lt h1 (Nat.pow_lt_pow_right (by decide) (by omega))
theorem small_big {i : Int} (h0 : 0 ≤ i) (h : i < 2 ^ 60) : big 1000 i := by
  unfold big
  refine Nat.lt_of_lt_of_le (m := 2 ^ 60) ?_ (Nat.pow_le_pow_right (by decide) (by decide))
  omega
/-- what is asked of small pairs -/
theorem small_ok {a b : Int} (ha : 0 < a) (hb : 0 < b) (h1 : a ≤ 10000) (h2 : b ≤ 10000) : okQV (a, b) ∧ okQ (a, b) ∧ okM (a, b) ∧ okF (a, b) := by
  have q1 := small_big (show 0 ≤ a by omega) (by omega)
  have q2 := small_big (show 0 ≤ b by omega) (by omega)
  have d1 : (a - 1) / b ≤ a - 1 := Int.ediv_le_self _ (by omega)
  have d2 : (b - 1) / a ≤ b - 1 := Int.ediv_le_self _ (by omega)
  exact ⟨⟨ha, hb, q1, q2⟩, ⟨ha, hb, q1, q2, by show (a - 1) / b < _; omega, by show (b - 1) / a < _; omega⟩, ⟨ha, hb, by show (a - 1) / b < _; omega⟩, ⟨ha, hb, q1, q2⟩⟩
theorem eqv_int (i j : Int) : PyData.eqv (.int i) (.int j) = decide (i = j) := by simp only [PyData.eqv]; rw [Bool.beq_eq_decide_eq]
theorem same3 (a : Int) : same (.tuple [.int a, .int a, .int a]) (.tuple [.int a, .int a, .int a]) = true := same_refl _ rfl
theorem dep_tup (l : List (Int × Int)) : (PyData.tuple (l.map pI)).depth ≤ 2 := by
  simp only [PyData.depth]
  have := deps_pI l
  omega
def rvD (x : PyData) : PyData := match x with | .tuple ds => .tuple ds.reverse | y => y
theorem rv_sw (l : List (Int × Int)) : (l.map sw).map pI = (l.map pI).map rvD := by
  rw [List.map_map, List.map_map]
  rfl
theorem sP_len (l : List (Int × Int)) : (sP l).length = l.length := (sP_perm l).length_eq
theorem rev_wins {A B : Int} (hb : 0 < B) (h : B ≤ A) : srt ((srt ((wins A B).map pI)).map rvD) = srt ((wins B A).map pI) := by
  have e : ∀ l : List (Int × Int), (l.map pI).map rvD = (l.map sw).map pI := fun l => by
    rw [List.map_map, List.map_map]
    rfl
  rw [srt_pI, e, srt_pI, wins_sw hb h, srt_pI, sP_eq ((sP_perm (wins A B)).map sw)]
theorem same_tup {l : List (Int × Int)} (h : l.length < 2 ^ 24) : same (.tuple (srt (l.map pI))) (.tuple (srt (l.map pI))) = true := same_refl _ (by rw [srt_pI]; exact nar_tup (by rw [sP_len]; exact h))
theorem ok_tup {l m : List (Int × Int)} (h : l.length < 2 ^ 24) (h2 : m.length < 2 ^ 24) : okSm 2 (.tuple (srt (l.map pI)), .tuple (srt (m.map pI))) := by
  refine ⟨?_, ?_, ?_⟩
  · show nar (.tuple (srt (l.map pI))) = true
    rw [srt_pI]
    exact nar_tup (by rw [sP_len]; exact h)
  · show nar (.tuple (srt (m.map pI))) = true
    rw [srt_pI]
    exact nar_tup (by rw [sP_len]; exact h2)
  · show min (PyData.tuple (srt (l.map pI))).depth (PyData.tuple (srt (m.map pI))).depth ≤ 2
    rw [srt_pI]
    have := dep_tup (sP l)
    omega
theorem eqv_bl (a b : Bool) : PyData.eqv (.bool a) (.bool b) = (a == b) := by simp only [PyData.eqv]
theorem eqv_nil (l : List PyData) : PyData.eqv (.tuple l) (.tuple []) = decide (l.length = 0) := by
  cases l with
  | nil => simp [PyData.eqv, PyData.eqvAll]
  | cons a l => simp [PyData.eqv, PyData.eqvAll]
def farD (x : PyData) : PyData := match x with
  | .tuple [.int a, .int b] => .bool (decide (qv a b = 0))
  | _ => .none
theorem farD_map (l : List (Int × Int)) : (l.map pI).map farD = (l.map fun z => decide (qv z.1 z.2 = 0)).map .bool := by
  rw [List.map_map, List.map_map]
  rfl
theorem all_wins (a b : Int) : ((sP (wins a b)).map fun z => decide (qv z.1 z.2 = 0)).all id = true := by
  rw [List.all_map, List.all_eq_true]
  intro z hz
  exact decide_eq_true (wins_mem ((sP_perm _).mem_iff.mp hz)).2
theorem fib_ok {i : Nat} {x y : Int} (h0 : 0 < x) (h1 : x ≤ y) (h2 : y ≤ 2 * x) (h3 : y ≤ 2 ^ (i + 1)) (hi : i ≤ 145) : okQV (x, y) ∧ okF (x, y) ∧ okQ (y, x) := by
  have q1 := fib_big h0 (Int.le_trans h1 h3) hi
  have q2 := fib_big (show 0 < y by omega) h3 hi
  have e1 : (x - 1) / y = 0 := Int.ediv_eq_zero_of_lt (by omega) (by omega)
  have e2 : (y - 1) / x < 2 ^ 23 := Int.ediv_lt_of_lt_mul h0 (by omega)
  exact ⟨⟨h0, by show 0 < y; omega, q1, q2⟩, ⟨h0, by show 0 < y; omega, q1, q2⟩, ⟨by show 0 < y; omega, h0, q2, q1, e2, by show (x - 1) / y < _; rw [e1]; decide⟩⟩
theorem great_big {x : Int} (h0 : 0 < x) (h : x ≤ 1000000000000000000000000000000) : big 1000 x := by
  unfold big
  refine Nat.lt_of_lt_of_le (m := 2 ^ 101) ?_ (Nat.pow_le_pow_right (by decide) (by decide))
  omega
end K67

namespace K67
open PySem L2 PyProof.Rows Z
section
variable {P : Program} {w : World} {K : PySem.W.Frag} {mg : Str → Option Value} {base : Heap}
structure Fs (P : Program) (w : World) (K : PySem.W.Frag) (mg : Str → Option Value) (base : Heap) : Prop where
  box : Cal P w K mg base 1 "_law_box" (preOf aSc0 (fun ns => ns.length ≤ 63)) (relOf aSc0 (fun ns => ns.length ≤ 63) (fun ns => .o (OBox (box0 ns))) (fun _ => []))
  draw : Cal P w K mg base 2 "_law_draw" (preOf aDr okDr) (relOf aDr okDr rDraw oDraw)
  same : Cal P w K mg base 3 "_law_same" (preOf aSm (okSm 2)) (relOf aSm (okSm 2) rSm (fun _ => []))
  qv : Cal P w K mg base 1 "quotient_value" (preOf aQV okQV) (relOf aQV okQV (fun x => .d (.int (qv x.1 x.2))) (fun _ => []))
  qm : Cal P w K mg base 2 "quotient_moves" (preOf aQV okQ) (relOf aQV okQ (fun x => .d (.tuple (srt ((wins x.1 x.2).map pI)))) (fun _ => []))
  lm : Cal P w K mg base 1 "_law_moves" (preOf aQV okM) (relOf aQV okM rM (fun _ => []))
  lv : Cal P w K mg base 202 "_law_value" (preOf (aV P w) (okV 200)) (relOf (aV P w) (okV 200) rV (oV P w))
  far : Cal P w K mg base 1 "_law_far" (preOf aQV okF) (relOf aQV okF (fun x => .d (.int (K67.qv x.1 x.2))) (fun _ => []))
  m1 : mg "max" = none
  m2 : mg "min" = none
  m3 : mg "range" = none
  m4 : mg "sorted" = none
  m5 : mg "tuple" = none
  m6 : mg "len" = none
  m7 : mg "all" = none
/-- the state between the turns -/
def St0 (P : Program) (w : World) (ns : List Int) (t : S) : Prop := ∃ b, BOK b ∧ t = ⟨[.d (.list (ns.map .int)), .r 0, .r 1, .un, .un, .un, .un, .un, .un, .un, .un, .un, .un, .un, .un, .un, .un, .un, .un], [OBox b, OM P w fV]⟩
theorem law_body (F : Fs P w K mg base) (f : Addr) (cdv : Value) (Ar : Around) (outer : List Env) (s : Shared) (H : Hp) (E : XK) (ns : List Int) (hy : ns.length ≤ 63) (hr : Room 202 (Ar.deeper (envOfC "law" (defScope s_law) s.heap.objs.size f cdv))) :
    ZSs (cxOf CX0 P w K mg base ["script", "box", "met", "turn", "most", "a", "b", "times_more", "due", "high", "low", "wins", "pair", "one", "other", "step", "told", "x", "y"] "law" (defScope s_law) f cdv Ar outer s H E).nox (defBody s_law) (inSt (aSc0 ns) 18) (poS 0 (.d (.bool true)) []) := by
  have hu := hr.units
  have nd := sc_law.nd
  refine zss_set 1 (ze_callSR ns F.box (za_cons (ze_var 0 rfl) za_nil) hy rfl hr) (lt_of rfl) ?_ nd
  refine zss_set 2 (ze_newM fV) (lt_of rfl) ?_ nd
  refine zss_for (vs := [3]) (M := St0 P w ns) (zi_rng1 (za_cons ze_int za_nil) ⟨by decide, by decide⟩ F.m3) 2 (Nat.zero_le _) (Nat.le_refl _) (fun _ t => St0 P w ns t) ⟨box0 ns, box0_ok hy, rfl⟩ (fun i x t hx ht => ?_) (fun t ht => ht) (fun t ht => ?_) PassesOwn.never
  · obtain ⟨b, hb, rfl⟩ := ht
    obtain ⟨_, rfl⟩ := rng_get hx
    refine ⟨_, zg_name 3 (lt_of rfl) nd, ?_⟩
    obtain ⟨d1, b1, e1, l1, u1, hb1⟩ := draw_ex hb (show (0 : Int) < 6 by decide)
    obtain ⟨most, e0, hm1, hm2⟩ : ∃ most, (if decide (d1 = 0) = true then (200 : Int) else 40) = most ∧ 0 < most ∧ most ≤ 200 := ⟨_, rfl, by split <;> decide, by split <;> decide⟩
    refine zss_set 4 (ZE.i (ze_iteI (zt_eqI (ze_draw F.draw e1 (za_cons (ze_var 1 rfl) (za_cons ze_int za_nil)) rfl hb hr) ze_int) (fun _ => ze_int) (fun _ => ze_int)) e0) (lt_of rfl) ?_ nd
    -- a, b, times_more
    obtain ⟨d2, b2, e2, l2, u2, hb2⟩ := draw_ex hb1 hm1
    obtain ⟨d3, b3, e3, l3, u3, hb3⟩ := draw_ex hb2 hm1
    obtain ⟨d4, b4, e4, l4, u4, hb4⟩ := draw_ex hb3 (show (0 : Int) < 9 by decide)
    have mb : most.natAbs < 2 ^ 200 := Nat.lt_of_lt_of_le (m := 2 ^ 8) (by omega) (Nat.pow_le_pow_right (by decide) (by decide))
    refine zss_par3 5 6 7 (za_cons (ze_add ze_int (ze_draw F.draw e2 (za_cons (ze_var 1 rfl) (za_cons (ze_var 4 rfl) za_nil)) rfl hb1 hr hm1 mb)) (za_cons (ze_add ze_int (ze_draw F.draw e3 (za_cons (ze_var 1 rfl) (za_cons (ze_var 4 rfl) za_nil)) rfl hb2 hr hm1 mb)) (za_cons (ze_add ze_int (ze_draw F.draw e4 (za_cons (ze_var 1 rfl) (za_cons ze_int za_nil)) rfl hb3 hr)) za_nil))) (lt_of rfl) (lt_of rfl) (lt_of rfl) ?_ nd
    obtain ⟨a, ea, a0, a1⟩ : ∃ a, 1 + d2 = a ∧ 0 < a ∧ a ≤ 200 := ⟨_, rfl, by omega, by omega⟩
    obtain ⟨c, ec, c0, c1⟩ : ∃ a, 1 + d3 = a ∧ 0 < a ∧ a ≤ 200 := ⟨_, rfl, by omega, by omega⟩
    obtain ⟨t, et, t0, t1⟩ : ∃ a, 1 + d4 = a ∧ 0 < a ∧ a ≤ 9 := ⟨_, rfl, by omega, by omega⟩
    rw [ea, ec, et]
    -- due
    refine zss_set 8 (ze_callS1 (a, c) F.lv (za_cons (ze_var 5 rfl) (za_cons (ze_var 6 rfl) (za_cons (ze_var 2 rfl) za_nil))) ⟨a0, c0, a1, c1, a1, c1⟩ rfl rfl rfl hr) (lt_of rfl) ?_ nd
    have ta : t * a ≤ 1800 := by have := Int.mul_le_mul t1 a1 (by omega) (by omega); omega
    have tc : t * c ≤ 1800 := by have := Int.mul_le_mul t1 c1 (by omega) (by omega); omega
    have ta0 : 0 < t * a := Int.mul_pos t0 a0
    have tc0 : 0 < t * c := Int.mul_pos t0 c0
    obtain ⟨o1, o2, o3, o4⟩ := small_ok a0 c0 (by omega) (by omega)
    obtain ⟨p1, p2, p3, p4⟩ := small_ok c0 a0 (by omega) (by omega)
    obtain ⟨q1, _, _, _⟩ := small_ok ta0 tc0 (by omega) (by omega)
    have mu : ∀ {x y : Int}, 0 ≤ x → x ≤ 10000 → CMul x y := fun h1 h2 => .inl ⟨by omega, by omega⟩
    refine zss_ifRet (k := false) (zt_k (zw_orI (zt_notI (zt_val (ze_callS (.tuple [.int (qv a c), .int (qv c a), .int (qv (t * a) (t * c))], .tuple [.int (qv a c), .int (qv a c), .int (qv a c)]) F.same
      (za_cons (ze_tup (ds := [.int (qv a c), .int (qv c a), .int (qv (t * a) (t * c))]) (za_cons (ze_callS (a, c) F.qv (za_cons (ze_var 5 rfl) (za_cons (ze_var 6 rfl) za_nil)) o1 rfl hr) (za_cons (ze_callS (c, a) F.qv (za_cons (ze_var 6 rfl) (za_cons (ze_var 5 rfl) za_nil)) p1 rfl hr)
        (za_cons (ze_callS (t * a, t * c) F.qv (za_cons (ze_mul (mu (by omega) (by omega)) (ze_var 7 rfl) (ze_var 5 rfl)) (za_cons (ze_mul (mu (by omega) (by omega)) (ze_var 7 rfl) (ze_var 6 rfl)) za_nil)) q1 rfl hr) za_nil))))
        (za_cons (ze_tup (ds := [.int (qv a c), .int (qv a c), .int (qv a c)]) (za_cons (ze_var 8 rfl) (za_cons (ze_var 8 rfl) (za_cons (ze_var 8 rfl) za_nil)))) za_nil)) ⟨rfl, rfl, by simp [PyData.depth, PyData.depthAll]⟩ rfl hr)))
      (fun _ => zw_or1 (zt_neI (ze_callS (a, c) F.far (za_cons (ze_var 5 rfl) (za_cons (ze_var 6 rfl) za_nil)) o4 rfl hr) (ze_var 8 rfl)))).t (by
        show (!same (.tuple [.int (qv a c), .int (qv c a), .int (qv (t * a) (t * c))]) (.tuple [.int (qv a c), .int (qv a c), .int (qv a c)]) || !decide (qv a c = qv a c)) = false
        rw [qv_comm c a, qv_mul t0 a0 c0, same3]
        simp)) (fun h => nomatch h) fun _ => ?_
    -- high, low
    obtain ⟨A, B, eA, eB, B0, BA, A1, qAB⟩ : ∃ A B, (if c > a then c else a) = A ∧ (if c < a then c else a) = B ∧ 0 < B ∧ B ≤ A ∧ A ≤ 200 ∧ qv A B = qv a c := by
      refine ⟨_, _, rfl, rfl, by split <;> omega, by split <;> split <;> omega, by split <;> omega, ?_⟩
      by_cases h : c > a
      · rw [if_pos h, if_neg (by omega)]
        exact qv_comm _ _
      · rw [if_neg h]
        split
        · rfl
        · have : c = a := by omega
          rw [this]
    refine zss_par2 9 10 (za_cons (ZE.i (ze_max2 (za_cons (ze_var 5 rfl) (za_cons (ze_var 6 rfl) za_nil)) F.m1) eA) (za_cons (ZE.i (ze_min2 (za_cons (ze_var 5 rfl) (za_cons (ze_var 6 rfl) za_nil)) F.m2) eB) za_nil)) (lt_of rfl) (lt_of rfl) ?_ nd
    obtain ⟨_, r2, r3, _⟩ := small_ok (show 0 < A by omega) B0 (by omega) (by omega)
    obtain ⟨_, v2, _, _⟩ := small_ok B0 (show 0 < A by omega) (by omega) (by omega)
    have sz : (2 : Nat) ^ 23 < sizeLine := by decide
    have wl := wins_len r2
    have wl2 := wins_len v2
    have slen : (stL A B).length < sizeLine := by
      rw [stL_len]
      have d1 : (A - 1) / B ≤ A - 1 := Int.ediv_le_self _ (by omega)
      unfold stN
      omega
    refine zss_set 11 (ze_sorted (ds := (wins A B).map pI) (.d _) (za_cons (ZE.x (ze_lcP (fun x => x) isW (vs := [12]) (zi_list (ze_callS (A, B) F.lm (za_cons (ze_var 9 rfl) (za_cons (ze_var 10 rfl) za_nil)) r3 rfl hr)) (fun x hx => ?_) (by rw [List.length_map]; exact slen) nd (blkOk_by (own := [("pair", 12)]) (by kernel_rfl))) ?_) za_nil) (PySem.W.AllAlike.of alike_pI) (PySem.W.Sortable.tuples fun b => ⟨_, _, rfl⟩) (fun d hd => roomS hu (by
      obtain ⟨z, hz, rfl⟩ := List.mem_map.mp hd
      rw [dep_pI]
      decide)) F.m4) (lt_of rfl) ?_ nd
    · obtain ⟨z, hz, rfl⟩ := List.mem_map.mp hx
      obtain ⟨z1, z2, z3⟩ := st_pos (show 0 < A by omega) B0 hz
      exact ⟨_, fun z => zg_name 12 (lt_of rfl) nd, rfl, fun z' => zts_one (zt_eqI (ze_callS1 z F.lv (za_cons (ze_ixT (.d (pI z)) rfl (ze_var 12 rfl) ze_int) (za_cons (ze_ixT (.d (pI z)) rfl (ze_var 12 rfl) ze_int) (za_cons (ze_var 2 rfl) za_nil))) ⟨z1, by omega, by omega, by omega, by omega, by omega⟩ rfl rfl rfl hr) ze_int), fun _ z' => ze_var 12 rfl⟩
    · rw [List.map_id', isW_map]
      unfold wins
      rw [steps_ge BA]
    -- the moves
    refine zss_ifRet (k := false) (zt_k (zw_orI (zt_notI (zt_val (ze_callS (.tuple (srt ((wins A B).map pI)), .tuple (srt ((wins A B).map pI))) F.same
      (za_cons (ze_callS (A, B) F.qm (za_cons (ze_var 9 rfl) (za_cons (ze_var 10 rfl) za_nil)) r2 rfl hr) (za_cons (ze_tupOfL (ds := srt ((wins A B).map pI)) (.d _) (za_cons (ze_var 11 rfl) za_nil) F.m5) za_nil)) (ok_tup (by omega) (by omega)) rfl hr)))
      (fun _ => zw_or1 (zt_notI (zt_val (ze_callS (.tuple (srt ((wins B A).map pI)), .tuple (srt ((wins B A).map pI))) F.same
      (za_cons (ze_callS (B, A) F.qm (za_cons (ze_var 10 rfl) (za_cons (ze_var 9 rfl) za_nil)) v2 rfl hr) (za_cons (ze_tupOfL (ds := srt ((wins B A).map pI)) (.d _) (za_cons (ZE.x (ze_sorted (.d _) (za_cons (ze_lcM rvD (vs := [12]) (zi_list (ze_var 11 rfl)) (fun x hx => ?_) (by rw [(srt_perm _).length_eq, List.length_map]; omega) nd (blkOk_by (own := [("pair", 12)]) (by kernel_rfl))) za_nil) ?_ ?_ ?_ F.m4) (congrArg PyData.list (rev_wins B0 BA))) za_nil) F.m5) za_nil)) (ok_tup (by omega) (by omega)) rfl hr))))).t (by
        show (!same (.tuple (srt ((wins A B).map pI))) (.tuple (srt ((wins A B).map pI))) || !same (.tuple (srt ((wins B A).map pI))) (.tuple (srt ((wins B A).map pI)))) = false
        rw [same_tup (by omega), same_tup (by omega)]
        rfl)) (fun h => nomatch h) fun _ => ?_
    · rw [srt_pI] at hx
      obtain ⟨z, hz, rfl⟩ := List.mem_map.mp hx
      exact ⟨_, fun z => zg_name 12 (lt_of rfl) nd, rfl, fun z' => ze_revT (.d (pI z)) (ze_var 12 rfl)⟩
    · rw [srt_pI, ← rv_sw]
      exact PySem.W.AllAlike.of alike_pI
    · rw [srt_pI, ← rv_sw]
      exact PySem.W.Sortable.tuples fun b => ⟨_, _, rfl⟩
    · rw [srt_pI, ← rv_sw]
      refine fun d hd => roomS hu ?_
      obtain ⟨z, hz, rfl⟩ := List.mem_map.mp hd
      rw [dep_pI]
      decide
    -- their number
    refine zss_ifRet (k := false) (zt_k (zt_neP (.d _) (.d _) (ze_eqI (ze_lenL (ds := srt ((wins A B).map pI)) (.d _) (za_cons (ze_var 11 rfl) za_nil) F.m6) ze_int) (ze_eqI (ze_var 8 rfl) ze_int) rfl rfl (roomE hu (by simp [PyData.depth]))) (by
      rw [eqv_bl, (srt_perm _).length_eq, List.length_map]
      have := wins_nil (show 0 < A by omega) B0
      rw [qAB] at this
      show (!(decide (((wins A B).length : Int) = 0) == decide (qv a c = 0))) = false
      by_cases h : qv a c = 0
      · simp [h, this.mpr h]
      · have h2 : ¬ (wins A B).length = 0 := fun z => h (this.mp z)
        simp [h, h2])) (fun h => nomatch h) fun _ => ?_
    exact zss_end 2 (e' := [.d (.list (ns.map .int)), .r 0, .r 1, .un, .un, .un, .un, .un, .un, .un, .un, .un, .un, .un, .un, .un, .un, .un, .un]) (by simp [wkE]) (by simp [low]) (Nat.le_refl _) ⟨b4, hb4, rfl⟩
  · obtain ⟨b, hb, rfl⟩ := ht
    refine zss_asg (vs := [13, 14]) (ze_tup (ds := [.int 1, .int 2]) (za_cons ze_int (za_cons ze_int za_nil))) (zg_tup (zgs_cons (zg_name 13 (lt_of rfl) nd) (zgs_cons (zg_name 14 (lt_of rfl) nd) zgs_nil))) ?_
    obtain ⟨d1, b1, e1, l1, u1, hb1⟩ := draw_ex hb (show (0 : Int) < 140 by decide)
    refine zss_for (vs := [15]) (M := fun t => ∃ (i : Nat) (x y : Int) (r15 : SD), i ≤ 145 ∧ 0 < x ∧ x ≤ y ∧ y ≤ 2 * x ∧ y ≤ 2 ^ (i + 1) ∧ t = ⟨[.d (.list (ns.map .int)), .r 0, .r 1, .un, .un, .un, .un, .un, .un, .un, .un, .un, .un, .d (.int x), .d (.int y), r15, .un, .un, .un], [OBox b1, OM P w fV]⟩)
      (zi_rng1 (za_cons (ze_add ze_int (ze_draw F.draw e1 (za_cons (ze_var 1 rfl) (za_cons ze_int za_nil)) rfl hb hr)) za_nil) ⟨by omega, by omega⟩ F.m3) 2 (Nat.zero_le _) (Nat.le_refl _)
      (fun i t => ∃ (x y : Int) (r15 : SD), 0 < x ∧ x ≤ y ∧ y ≤ 2 * x ∧ y ≤ 2 ^ (i + 1) ∧ t = ⟨[.d (.list (ns.map .int)), .r 0, .r 1, .un, .un, .un, .un, .un, .un, .un, .un, .un, .un, .d (.int x), .d (.int y), r15, .un, .un, .un], [OBox b1, OM P w fV]⟩)
      ⟨1, 2, .un, by decide, by decide, by decide, by decide, rfl⟩ (fun i x t hx ht => ?_) (fun t ⟨x, y, r15, h1, h2, h3, h4, h5⟩ => ⟨_, x, y, r15, by rw [rng_len]; omega, h1, h2, h3, h4, h5⟩) (fun t ht => ?_) PassesOwn.never
    · obtain ⟨x, y, r15, h1, h2, h3, h4, rfl⟩ := ht
      obtain ⟨_, rfl⟩ := rng_get hx
      refine ⟨_, zg_name 15 (lt_of rfl) nd, ?_⟩
      refine zss_par2 13 14 (za_cons (ze_var 14 rfl) (za_cons (ze_add (ze_var 13 rfl) (ze_var 14 rfl)) za_nil)) (lt_of rfl) (lt_of rfl) (zss_nil ⟨y, x + y, _, by omega, by omega, by omega, ?_, rfl⟩) nd
      have : (2 : Int) ^ (i + 1 + 1) = 2 * 2 ^ (i + 1) := by rw [Int.pow_succ, Int.mul_comm]
      omega
    · obtain ⟨i, x, y, r15, hi, x0, xy, yx, y2, rfl⟩ := ht
      obtain ⟨o1, o2, o3⟩ := fib_ok x0 xy yx y2 hi
      have wl := wins_len o3
      refine zss_ifRet (k := false) (zt_k (zw_orI (zt_notI (zt_val (ze_callS (.int (qv x y), .int (qv x y)) F.same (za_cons (ze_callS (x, y) F.qv (za_cons (ze_var 13 rfl) (za_cons (ze_var 14 rfl) za_nil)) o1 rfl hr) (za_cons (ze_callS (x, y) F.far (za_cons (ze_var 13 rfl) (za_cons (ze_var 14 rfl) za_nil)) o2 rfl hr) za_nil)) ⟨rfl, rfl, by simp [PyData.depth]⟩ rfl hr)))
        (fun _ => zw_or1 (zt_neP (.d _) (.d _) (ze_eqP (.d (.tuple (srt ((wins y x).map pI)))) (.d (.tuple [])) (ze_callS (y, x) F.qm (za_cons (ze_var 14 rfl) (za_cons (ze_var 13 rfl) za_nil)) o3 rfl hr) (ze_tup (ds := []) za_nil) (by rw [srt_pI]; exact plain_pI _) rfl (roomE hu (by rw [srt_pI]; have := dep_tup (sP (wins y x)); omega)))
          (ze_eqI (ze_callS (x, y) F.far (za_cons (ze_var 13 rfl) (za_cons (ze_var 14 rfl) za_nil)) o2 rfl hr) ze_int) rfl rfl (roomE hu (by simp [PyData.depth]))))).t (by
          have w0 := wins_nil (show 0 < y by omega) x0
          rw [qv_comm] at w0
          show (!same (.int (qv x y)) (.int (qv x y)) || !PyData.eqv (.bool (PyData.eqv (.tuple (srt ((wins y x).map pI))) (.tuple []))) (.bool (decide (qv x y = 0)))) = false
          rw [same_refl _ rfl, eqv_nil, eqv_bl, (srt_perm _).length_eq, List.length_map]
          by_cases h : qv x y = 0
          · simp [h, w0.mpr h]
          · have h2 : ¬ (wins y x).length = 0 := fun z => h (w0.mp z)
            simp [h, h2])) (fun h => nomatch h) fun _ => ?_
      obtain ⟨d2, b2, e2, l2, u2, hb2⟩ := draw_ex hb1 (show (0 : Int) < 1000000000000000000000000000000 by decide)
      obtain ⟨d3, b3, e3, l3, u3, hb3⟩ := draw_ex hb2 (show (0 : Int) < 1000000000000000000000000000000 by decide)
      have pw : (10 : Int) ^ (30 : Int).toNat = 1000000000000000000000000000000 := by decide
      refine zss_par2 5 6 (za_cons (ze_add ze_int (ze_draw F.draw e2 (za_cons (ze_var 1 rfl) (za_cons (ZE.i (ze_pow ⟨by decide, by decide, by decide⟩ ze_int ze_int) pw) za_nil)) rfl hb1 hr)) (za_cons (ze_add ze_int (ze_draw F.draw e3 (za_cons (ze_var 1 rfl) (za_cons (ZE.i (ze_pow ⟨by decide, by decide, by decide⟩ ze_int ze_int) pw) za_nil)) rfl hb2 hr)) za_nil)) (lt_of rfl) (lt_of rfl) ?_ nd
      obtain ⟨a, ea, a0, a1⟩ : ∃ a, 1 + d2 = a ∧ 0 < a ∧ a ≤ 1000000000000000000000000000000 := ⟨_, rfl, by omega, by omega⟩
      obtain ⟨c, ec, c0, c1⟩ : ∃ a, 1 + d3 = a ∧ 0 < a ∧ a ≤ 1000000000000000000000000000000 := ⟨_, rfl, by omega, by omega⟩
      rw [ea, ec]
      have g1 := great_big a0 a1
      have g2 := great_big c0 c1
      have p5 : (10 : Int) ^ (5 : Int).toNat = 100000 := by decide
      refine zss_ifI (k := decide ((if c > a then c else a) < 100000 * (if c < a then c else a))) (M := fun t => ∃ r16, t = ⟨[.d (.list (ns.map .int)), .r 0, .r 1, .un, .un, .d (.int a), .d (.int c), .un, .un, .un, .un, .un, .un, .d (.int x), .d (.int y), r15, r16, .un, .un], [OBox b3, OM P w fV]⟩)
        (zt_lt (ze_max2 (za_cons (ze_var 5 rfl) (za_cons (ze_var 6 rfl) za_nil)) F.m1) (ze_mul (.inl ⟨by decide, by decide⟩) (ZE.i (ze_pow ⟨by decide, by decide, by decide⟩ ze_int ze_int) p5) (ze_min2 (za_cons (ze_var 5 rfl) (za_cons (ze_var 6 rfl) za_nil)) F.m2))) (fun h => ?_) (fun h => zss_nil ⟨_, rfl⟩) (fun t ht => ?_)
      · have h := of_decide_eq_true h
        have k1 : (a - 1) / c < 2 ^ 23 := Int.ediv_lt_of_lt_mul c0 (by split at h <;> split at h <;> omega)
        have k2 : (c - 1) / a < 2 ^ 23 := Int.ediv_lt_of_lt_mul a0 (by split at h <;> split at h <;> omega)
        have q1 : okQ (a, c) := ⟨a0, c0, g1, g2, k1, k2⟩
        have wl := wins_len q1
        have sz : (2 : Nat) ^ 23 < sizeLine := by decide
        refine zss_set 16 (ze_callS (a, c) F.qm (za_cons (ze_var 5 rfl) (za_cons (ze_var 6 rfl) za_nil)) q1 rfl hr) (lt_of rfl) ?_ nd
        refine zss_ifRet (k := false) (zt_k (zw_orI (zt_neP (.d _) (.d _) (ze_eqI (ze_lenT (ds := srt ((wins a c).map pI)) (.d _) (za_cons (ze_var 16 rfl) za_nil) F.m6) ze_int) (ze_eqI (ze_callS (a, c) F.far (za_cons (ze_var 5 rfl) (za_cons (ze_var 6 rfl) za_nil)) ⟨a0, c0, g1, g2⟩ rfl hr) ze_int) rfl rfl (roomE hu (by simp [PyData.depth])))
          (fun _ => zw_or1 (zt_notI (zt_val (ze_all (bs := (sP (wins a c)).map fun z => decide (qv z.1 z.2 = 0)) (.d _) (za_cons (ZE.x (ze_lcM farD (vs := [17, 18]) (zi_tup (ze_var 16 rfl)) (fun x' hx => ?_) (by show (srt ((wins a c).map pI)).length < sizeLine; rw [(srt_perm _).length_eq, List.length_map]; omega) nd (blkOk_by (own := [("x", 17), ("y", 18)]) (by kernel_rfl))) (by rw [srt_pI, farD_map])) za_nil) F.m7))))).t (by
            rw [eqv_bl, (srt_perm _).length_eq, List.length_map]
            have w0 := wins_nil a0 c0
            show ((!(decide (((wins a c).length : Int) = 0) == decide (qv a c = 0))) || !(((sP (wins a c)).map fun z => decide (qv z.1 z.2 = 0)).all id)) = false
            rw [all_wins]
            by_cases h : qv a c = 0
            · simp [h, w0.mpr h]
            · have h2 : ¬ (wins a c).length = 0 := fun z => h (w0.mp z)
              simp [h, h2])) (fun h => nomatch h) fun _ => zss_nil ⟨_, rfl⟩
        rw [srt_pI] at hx
        obtain ⟨z, hz, rfl⟩ := List.mem_map.mp hx
        obtain ⟨zs, _⟩ := wins_mem ((sP_perm _).mem_iff.mp hz)
        have zq := steps_ok q1 zs
        exact ⟨_, fun z' => zg_tup (zgs_cons (zg_name 17 (lt_of rfl) nd) (zgs_cons (zg_name 18 (lt_of rfl) nd) zgs_nil)), rfl, fun z' => ze_eqI (ze_callS z F.far (za_cons (ze_var 17 rfl) (za_cons (ze_var 18 rfl) za_nil)) zq rfl hr) ze_int⟩
      · obtain ⟨r16, rfl⟩ := ht
        refine zss_ret (ZE.x (ze_callS (.int (qv a c), .int (qv a c)) F.same (za_cons (ze_callS (a, c) F.qv (za_cons (ze_var 5 rfl) (za_cons (ze_var 6 rfl) za_nil)) ⟨a0, c0, g1, g2⟩ rfl hr) (za_cons (ze_callS (a, c) F.far (za_cons (ze_var 5 rfl) (za_cons (ze_var 6 rfl) za_nil)) ⟨a0, c0, g1, g2⟩ rfl hr) za_nil)) ⟨rfl, rfl, by simp [PyData.depth]⟩ rfl hr) (show _ = PyData.bool true from congrArg PyData.bool (same_refl _ rfl))) ⟨rfl, rfl⟩
end
end K67

namespace K67
open PySem L2 PyProof.Rows Z
section
variable {P : Program} {w : World} {K : PySem.W.Frag} {mg : Str → Option Value}
structure Ds (K : PySem.W.Frag) (mg : Str → Option Value) : Prop where
  dquotient_value : Dfn K mg "quotient_value" s_quotient_value ["a", "b"]
  dquotient_steps : Dfn K mg "quotient_steps" s_quotient_steps ["a", "b"]
  dquotient_moves : Dfn K mg "quotient_moves" s_quotient_moves ["a", "b"]
  d_law_box : Dfn K mg "_law_box" s__law_box ["script"]
  d_law_load : Dfn K mg "_law_load" s__law_load ["box"]
  d_law_draw : Dfn K mg "_law_draw" s__law_draw ["box", "many"]
  d_law_same : Dfn K mg "_law_same" s__law_same ["a", "b"]
  d_law_moves : Dfn K mg "_law_moves" s__law_moves ["a", "b"]
  d_law_value : Dfn K mg "_law_value" s__law_value ["a", "b", "met"]
  d_law_far : Dfn K mg "_law_far" s__law_far ["a", "b"]
  n_abs : mg "abs" = none
  n_range : mg "range" = none
  n_sorted : mg "sorted" = none
  n_tuple : mg "tuple" = none
  n_len : mg "len" = none
  n_list : mg "list" = none
  n_int : mg "int" = none
  n_max : mg "max" = none
  n_min : mg "min" = none
  n_isinstance : mg "isinstance" = none
  n_bool : mg "bool" = none
  n_str : mg "str" = none
  n_all : mg "all" = none
theorem fs_of {base : Heap} (D : Ds K mg) : Fs P w K mg base where
  box := c_box D.d_law_box D.n_len D.n_list
  draw := c_draw D.d_law_draw (c_load D.d_law_load D.n_len D.n_int) D.n_int
  same := c_same D.d_law_same ⟨D.n_isinstance, D.n_tuple, D.n_list, D.n_bool, D.n_int, D.n_str, D.n_len, D.n_all, D.n_range⟩ 2
  qv := c_qv D.dquotient_value D.n_abs
  qm := c_moves D.dquotient_moves (c_steps D.dquotient_steps D.n_range) (c_qv D.dquotient_value D.n_abs) D.n_sorted D.n_tuple
  lm := c_lm D.d_law_moves
  lv := c_value D.d_law_value (c_lm D.d_law_moves) 200
  far := c_far D.d_law_far D.n_max D.n_min
  m1 := D.n_max
  m2 := D.n_min
  m3 := D.n_range
  m4 := D.n_sorted
  m5 := D.n_tuple
  m6 := D.n_len
  m7 := D.n_all
theorem all_mk {h : Heap} {fa f2 : Addr} (X : K.In h) (G : h.Ns PySem.mainGlobals mg) (hfa : mg "law" = some (.ref fa)) (D : Ds K mg) {od2 an2 : Option Addr} {sl2 : Array (Option Value)} {oc2 kV2 dc2 pm2 cd2 ct2 : Value}
    (a2 : PySem.W.nsIn K PySem.mainGlobals "law" = some (some (.ref f2))) (l2 : K.lookup f2 = some ⟨oc2, od2, .func (PySem.W.fnOf "law" "law" (defArgs s_law) (defBody s_law) (defScope s_law) .none kV2 dc2 pm2 an2 cd2 ct2), sl2⟩) (c2 : PySem.W.codeIn K cd2 "law" = true) (k2 : PySem.W.keepIn K (.ref f2) = true) :
    ∃ fd : FuncData, (∀ (s : Shared) (v : Value), BindsTo s fd ⟨[v], []⟩ [("script", v)]) ∧ ∀ base : Heap, K.In base → base.Ns PySem.mainGlobals mg → FnOk P w K mg base CX0 203 fa fd ["script"] (spL K) := by
  have e := hfa.symm.trans (PySem.W.mg_of X G a2)
  cases e
  have F2 := fun_mk (st := s_law) l2 c2 k2
  exact ⟨_, fun s v => .of_eq rfl, fun base _ _ => law_fn F2 (PySem.W.mg_of X G a2) sc_law (law_body (fs_of D))⟩
end
end K67
open PySem PySem.W PyProof.Rows
set_option maxHeartbeats 0 in
theorem PySem.Challenge.cw_cantmove_k67_whole_quotients_of_heaps_holds : PySem.Challenge.rw_cantmove_k67_whole_quotients_of_heaps.Holds := by
  w_on; o_law; k_head; (case hw => w_witness2)
  k_fill
  refine L2.walk_ofB (l := PySem.Challenge.rw_cantmove_k67_whole_quotients_of_heaps) (n := 63) (k := 203) (x := "script") (CX := fun _ => L2.CX0) (sp := fun w => Z.spL _) rfl (by decide) rfl ⟨rfl, by decide, by decide⟩ (fun w h Y => PySem.W.kIn_of Y) ?F (fun _ _ a ns hl _ _ hS => Z.head_ok hl hS) (fun _ _ _ _ _ h => h)
  case F =>
    intro w mg fa h KX G hmg
    refine' K67.all_mk KX G hmg ?D ?a2 ?l2 ?c2 ?k2
    (case a2 => k_is); (case l2 => k_is); (case c2 => k_is); (case k2 => k_is)
    case D =>
      constructor
      · refine' Z.fn_dfn KX G ?aD ?lD ?cD ?kD (fun _ _ _ _ _ _ us hl => match us, hl with | [_, _], _ => rfl)
        (case aD => k_is); (case lD => k_is); (case cD => k_is); (case kD => k_is)
      · refine' Z.fn_dfn KX G ?aD ?lD ?cD ?kD (fun _ _ _ _ _ _ us hl => match us, hl with | [_, _], _ => rfl)
        (case aD => k_is); (case lD => k_is); (case cD => k_is); (case kD => k_is)
      · refine' Z.fn_dfn KX G ?aD ?lD ?cD ?kD (fun _ _ _ _ _ _ us hl => match us, hl with | [_, _], _ => rfl)
        (case aD => k_is); (case lD => k_is); (case cD => k_is); (case kD => k_is)
      · refine' Z.fn_dfn KX G ?aD ?lD ?cD ?kD (fun _ _ _ _ _ _ us hl => match us, hl with | [_], _ => rfl)
        (case aD => k_is); (case lD => k_is); (case cD => k_is); (case kD => k_is)
      · refine' Z.fn_dfn KX G ?aD ?lD ?cD ?kD (fun _ _ _ _ _ _ us hl => match us, hl with | [_], _ => rfl)
        (case aD => k_is); (case lD => k_is); (case cD => k_is); (case kD => k_is)
      · refine' Z.fn_dfn KX G ?aD ?lD ?cD ?kD (fun _ _ _ _ _ _ us hl => match us, hl with | [_, _], _ => rfl)
        (case aD => k_is); (case lD => k_is); (case cD => k_is); (case kD => k_is)
      · refine' Z.fn_dfn KX G ?aD ?lD ?cD ?kD (fun _ _ _ _ _ _ us hl => match us, hl with | [_, _], _ => rfl)
        (case aD => k_is); (case lD => k_is); (case cD => k_is); (case kD => k_is)
      · refine' Z.fn_dfn KX G ?aD ?lD ?cD ?kD (fun _ _ _ _ _ _ us hl => match us, hl with | [_, _], _ => rfl)
        (case aD => k_is); (case lD => k_is); (case cD => k_is); (case kD => k_is)
      · refine' Z.fn_dfn KX G ?aD ?lD ?cD ?kD (fun _ _ _ _ _ _ us hl => match us, hl with | [_, _, _], _ => rfl)
        (case aD => k_is); (case lD => k_is); (case cD => k_is); (case kD => k_is)
      · refine' Z.fn_dfn KX G ?aD ?lD ?cD ?kD (fun _ _ _ _ _ _ us hl => match us, hl with | [_, _], _ => rfl)
        (case aD => k_is); (case lD => k_is); (case cD => k_is); (case kD => k_is)
      · refine' PySem.W.mg_none_of KX G ?zD
        (case zD => k_is)
      · refine' PySem.W.mg_none_of KX G ?zD
        (case zD => k_is)
      · refine' PySem.W.mg_none_of KX G ?zD
        (case zD => k_is)
      · refine' PySem.W.mg_none_of KX G ?zD
        (case zD => k_is)
      · refine' PySem.W.mg_none_of KX G ?zD
        (case zD => k_is)
      · refine' PySem.W.mg_none_of KX G ?zD
        (case zD => k_is)
      · refine' PySem.W.mg_none_of KX G ?zD
        (case zD => k_is)
      · refine' PySem.W.mg_none_of KX G ?zD
        (case zD => k_is)
      · refine' PySem.W.mg_none_of KX G ?zD
        (case zD => k_is)
      · refine' PySem.W.mg_none_of KX G ?zD
        (case zD => k_is)
      · refine' PySem.W.mg_none_of KX G ?zD
        (case zD => k_is)
      · refine' PySem.W.mg_none_of KX G ?zD
        (case zD => k_is)
      · refine' PySem.W.mg_none_of KX G ?zD
        (case zD => k_is)
