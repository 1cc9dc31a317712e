import PyProof.Rows.All
import Wide.All
import OpenK.AllK
import Wide.FinOn
import HandS.ForExc
import HandS.ForMost
import HandS.Wide
import HandS.EndBits
import HandS.Codes
import HandS.Deep
import HandS.TupAny
import HandS.TupMul
import HandS.TupLe
import HandS.Flow
import HandS.Conv
import HandS.Style
import HandS.IsInst
import KE.SortData
import KE.DataEq
import HandS.TupSets
import PySem.Challenge.RW_cantmove_k66_whole_bars
set_option Elab.async false
set_option linter.all false
set_option autoImplicit false
set_option maxRecDepth 100000
set_option maxHeartbeats 4000000
namespace Z
open PySem L2

/-! ### heaps that grow -/
def Ext (F H : Hp) : Prop := ∀ a o, F a = some o → H a = some o
theorem Ext.refl (F : Hp) : Ext F F := fun _ _ h => h
theorem Ext.trans {F G H : Hp} (a : Ext F G) (b : Ext G H) : Ext F H := fun x o h => b x o (a x o h)
theorem Ext.up {F : Hp} {p : Addr} {o : HO} (h : F p = none) : Ext F (upd F p o) := fun a u e => by
  rw [upd_ne (ne_of_none e h)]
  exact e
theorem Ext.rd {F H : Hp} {a : Addr} {u : HO} (e : Ext F H) (h : Rd F a u) : Rd H a u := by
  rcases h with h | ⟨o, h⟩
  · exact .inl (e a _ h)
  · exact .inr ⟨o, e a _ h⟩
theorem Ext.l {K : PySem.W.Frag} {F H : Hp} {a : Addr} {xs : List V} (e : Ext F H) (h : SqL K F a xs) : SqL K H a xs := h.elim (fun z => .inl (e.rd z)) .inr
theorem Ext.t {K : PySem.W.Frag} {F H : Hp} {a : Addr} {xs : List V} (e : Ext F H) (h : SqT K F a xs) : SqT K H a xs := h.elim (fun z => .inl (e.rd z)) .inr

mutual
theorem dpUp {K : PySem.W.Frag} {F H : Hp} (e : Ext F H) : ∀ (d : PyData) (v : V), Dp K F v d → Dp K H v d
  | .none, _, h => by cases h; exact .non
  | .bool b, _, h => by cases h; exact .bl b
  | .int i, _, h => by cases h; exact .int i
  | .str x, _, h => by cases h; exact .str x
  | .list ds, _, h => by
    cases h with
    | lst hs ha => exact .lst (e.l hs) (dpsUp e ds _ ha)
  | .tuple ds, _, h => by
    cases h with
    | tup hs ha => exact .tup (e.t hs) (dpsUp e ds _ ha)
  | .dict _, _, h => by cases h
theorem dpsUp {K : PySem.W.Frag} {F H : Hp} (e : Ext F H) : ∀ (ds : List PyData) (vs : List V), DpAll K F vs ds → DpAll K H vs ds
  | [], _, h => by cases h; exact .nil
  | d :: ds, _, h => by
    cases h with
    | cons h1 h2 => exact .cons (dpUp e d _ h1) (dpsUp e ds _ h2)
end
theorem dpsLen {K : PySem.W.Frag} {F : Hp} : ∀ {ds : List PyData} {vs : List V}, DpAll K F vs ds → vs.length = ds.length
  | [], _, h => by cases h; rfl
  | d :: ds, _, h => by
    cases h with
    | cons h1 h2 => simp [dpsLen h2]
theorem dpsGet {K : PySem.W.Frag} {F : Hp} : ∀ {ds : List PyData} {vs : List V} {i : Nat} {x : PyData}, DpAll K F vs ds → ds[i]? = some x → ∃ v, vs[i]? = some v ∧ Dp K F v x
  | [], _, i, x, h, e => by simp at e
  | d :: ds, _, 0, x, h, e => by
    cases h with
    | cons h1 h2 => simp at e; subst e; exact ⟨_, rfl, h1⟩
  | d :: ds, _, i + 1, x, h, e => by
    cases h with
    | cons h1 h2 =>
      rw [List.getElem?_cons_succ] at e
      obtain ⟨v, h3, h4⟩ := dpsGet h2 e
      exact ⟨v, by rw [List.getElem?_cons_succ]; exact h3, h4⟩
theorem dpsGet' {K : PySem.W.Frag} {F : Hp} : ∀ {ds : List PyData} {vs : List V} {i : Nat} {v : V}, DpAll K F vs ds → vs[i]? = some v → ∃ x, ds[i]? = some x ∧ Dp K F v x
  | _, [], i, v, h, e => by simp at e
  | _, w :: vs, 0, v, h, e => by
    cases h with
    | cons h1 h2 => simp at e; subst e; exact ⟨_, rfl, h1⟩
  | _, w :: vs, i + 1, v, h, e => by
    cases h with
    | cons h1 h2 =>
      rw [List.getElem?_cons_succ] at e
      obtain ⟨v, h3, h4⟩ := dpsGet' h2 e
      exact ⟨v, by rw [List.getElem?_cons_succ]; exact h3, h4⟩
theorem dpsApp {K : PySem.W.Frag} {F : Hp} : ∀ {ds es : List PyData} {vs ws : List V}, DpAll K F vs ds → DpAll K F ws es → DpAll K F (vs ++ ws) (ds ++ es)
  | [], _, _, _, h, g => by cases h; exact g
  | d :: ds, _, _, _, h, g => by
    cases h with
    | cons h1 h2 => exact .cons h1 (dpsApp h2 g)
theorem dpsTake {K : PySem.W.Frag} {F : Hp} : ∀ {ds : List PyData} {vs : List V} (n : Nat), DpAll K F vs ds → DpAll K F (vs.take n) (ds.take n)
  | _, _, 0, _ => .nil
  | [], _, n + 1, h => by cases h; exact .nil
  | d :: ds, _, n + 1, h => by
    cases h with
    | cons h1 h2 => exact .cons h1 (dpsTake n h2)
theorem dpsDrop {K : PySem.W.Frag} {F : Hp} : ∀ {ds : List PyData} {vs : List V} (n : Nat), DpAll K F vs ds → DpAll K F (vs.drop n) (ds.drop n)
  | _, _, 0, h => h
  | [], _, n + 1, h => by cases h; exact .nil
  | d :: ds, _, n + 1, h => by
    cases h with
    | cons h1 h2 => exact dpsDrop n h2
theorem dpsRev {K : PySem.W.Frag} {F : Hp} : ∀ {ds : List PyData} {vs : List V}, DpAll K F vs ds → DpAll K F vs.reverse ds.reverse
  | [], _, h => by cases h; exact .nil
  | d :: ds, _, h => by
    cases h with
    | cons h1 h2 => rw [List.reverse_cons, List.reverse_cons]; exact dpsApp (dpsRev h2) (.cons h1 .nil)
theorem dpsSet {K : PySem.W.Frag} {F : Hp} {x : PyData} {v : V} (hx : Dp K F v x) : ∀ {ds : List PyData} {vs : List V} (n : Nat), DpAll K F vs ds → DpAll K F (vs.set n v) (ds.set n x)
  | [], _, _, h => by cases h; exact .nil
  | d :: ds, _, 0, h => by
    cases h with
    | cons h1 h2 => exact .cons hx h2
  | d :: ds, _, n + 1, h => by
    cases h with
    | cons h1 h2 => exact .cons h1 (dpsSet hx n h2)

/-! ### what is owned -/
/-- a thing of its own: what is true of it (the frozen heap, the heap, the value, its addresses) -/
structure Own where
  holds : PySem.W.Frag → Hp → Hp → V → List Addr → Prop
  stay : ∀ {K : PySem.W.Frag} {F F' H H' : Hp} {v : V} {fp : List Addr}, holds K F H v fp → Ext F F' → (∀ a ∈ fp, ∀ o, H a = some o → H' a = some o) → holds K F' H' v fp

inductive IT where
  | un | d (x : PyData) | o (P : Own)
/-- an entry: what it is, its value -/
abbrev En := IT × Option V
def Ent (K : PySem.W.Frag) (F H : Hp) : IT → Option V → List Addr → Prop
  | .un, _, fp => fp = []
  | .d x, v, fp => fp = [] ∧ ∃ u, v = some u ∧ Dp K F u x
  | .o P, v, fp => ∃ u, v = some u ∧ P.holds K F H u fp
abbrev EF := En × List Addr
def fpsOf (L : List EF) : List Addr := L.flatMap (·.2)
structure Held (K : PySem.W.Frag) (F H : Hp) (L : List EF) : Prop where
  ext : Ext F H
  ent : ∀ x ∈ L, Ent K F H x.1.1 x.1.2 x.2
  nd : (fpsOf L).Nodup
  own : ∀ a ∈ fpsOf L, F a = none ∧ ∃ o, H a = some o
def OK (K : PySem.W.Frag) (l : List En) (H : Hp) : Prop := ∃ F L, L.map (·.1) = l ∧ Held K F H L

theorem mem_fps {L : List EF} {a : Addr} : a ∈ fpsOf L ↔ ∃ x ∈ L, a ∈ x.2 := by
  unfold fpsOf
  rw [List.mem_flatMap]
theorem Ent.up {K : PySem.W.Frag} {F F' H H' : Hp} (e : Ext F F') : ∀ {i : IT} {v : Option V} {fp : List Addr}, Ent K F H i v fp → (∀ a ∈ fp, ∀ o, H a = some o → H' a = some o) → Ent K F' H' i v fp
  | .un, _, _, h, _ => h
  | .d x, _, _, ⟨h1, u, h2, h3⟩, _ => ⟨h1, u, h2, dpUp e x u h3⟩
  | .o P, _, _, ⟨u, h1, h2⟩, k => ⟨u, h1, P.stay h2 e k⟩

section
variable {K : PySem.W.Frag} {H H' : Hp} {l l' : List En}

theorem lift_perm : ∀ {l l' : List En} (p : l.Perm l') {L : List EF}, L.map (·.1) = l → ∃ L', L'.map (·.1) = l' ∧ L.Perm L' := by
  intro l l' p
  induction p with
  | nil => intro L h; exact ⟨L, h, .refl _⟩
  | cons x p ih =>
    intro L h
    cases L with
    | nil => simp at h
    | cons y L =>
      simp at h
      obtain ⟨h1, h2⟩ := h
      obtain ⟨L', e, q⟩ := ih h2
      exact ⟨y :: L', by simp [h1, e], q.cons y⟩
  | swap x y l =>
    intro L h
    match L, h with
    | a :: b :: L, h =>
      simp at h
      obtain ⟨h1, h2, h3⟩ := h
      exact ⟨b :: a :: L, by simp [h1, h2, h3], List.Perm.swap b a L⟩
  | trans p q ih1 ih2 =>
    intro L h
    obtain ⟨L1, e1, q1⟩ := ih1 h
    obtain ⟨L2, e2, q2⟩ := ih2 e1
    exact ⟨L2, e2, q1.trans q2⟩
theorem fps_perm {L L' : List EF} (p : L.Perm L') : (fpsOf L).Perm (fpsOf L') := by
  unfold fpsOf
  exact List.Perm.flatMap_right _ p
theorem Held.perm {F : Hp} {L L' : List EF} (p : L.Perm L') (h : Held K F H L) : Held K F H L' :=
  ⟨h.ext, fun x hx => h.ent x (p.mem_iff.mpr hx), (fps_perm p).nodup_iff.mp h.nd, fun a ha => h.own a ((fps_perm p).mem_iff.mpr ha)⟩
theorem OK.perm (p : l.Perm l') (h : OK K l H) : OK K l' H := by
  obtain ⟨F, L, e, g⟩ := h
  obtain ⟨L', e', q⟩ := lift_perm p e
  exact ⟨F, L', e', g.perm q⟩
theorem Held.tail {F : Hp} {x : EF} {L : List EF} (h : Held K F H (x :: L)) : Held K F H L :=
  ⟨h.ext, fun y hy => h.ent y (List.mem_cons_of_mem _ hy), (by
    have := h.nd
    unfold fpsOf at this
    rw [List.flatMap_cons] at this
    exact (List.nodup_append.mp this).2.1), fun a ha => h.own a (by
    unfold fpsOf
    rw [List.flatMap_cons]
    exact List.mem_append_right _ ha)⟩
theorem OK.tail {x : En} (h : OK K (x :: l) H) : OK K l H := by
  obtain ⟨F, L, e, g⟩ := h
  cases L with
  | nil => simp at e
  | cons y L => simp at e; exact ⟨F, L, e.2, g.tail⟩
theorem OK.right {k : List En} (h : OK K (k ++ l) H) : OK K l H := by
  induction k with
  | nil => exact h
  | cons x k ih => exact ih (OK.tail h)
theorem OK.left {k : List En} (h : OK K (l ++ k) H) : OK K l H := OK.right (k := k) (h.perm List.perm_append_comm)
theorem set_perm {α : Type} : ∀ {l : List α} {i : Nat} {y x : α}, l[i]? = some y → (x :: l).Perm (y :: l.set i x)
  | [], i, y, x, h => by simp at h
  | a :: l, 0, y, x, h => by
    simp at h
    subst h
    exact List.Perm.swap _ _ _
  | a :: l, i + 1, y, x, h => by
    have ih := set_perm (l := l) (i := i) (y := y) (x := x) (by simpa using h)
    rw [List.set_cons_succ]
    exact (List.Perm.swap a x l).trans ((ih.cons a).trans (List.Perm.swap y a _))
/-- a new entry in the place of the i-th -/
theorem OK.set {x : En} (i : Nat) (h : OK K (x :: l) H) : OK K (l.set i x) H := by
  cases e : l[i]? with
  | none =>
    rw [List.set_eq_of_length_le (List.getElem?_eq_none_iff.mp e)]
    exact h.tail
  | some y => exact (h.perm (set_perm e)).tail
/-- the i-th entry to the front, another in its place -/
theorem Held.unCons {F : Hp} {L : List EF} {v : Option V} (h : Held K F H L) : Held K F H (((IT.un, v), []) :: L) :=
  ⟨h.ext, fun y hy => by
    rcases List.mem_cons.mp hy with e | e
    · subst e; rfl
    · exact h.ent y e, by unfold fpsOf; rw [List.flatMap_cons]; exact h.nd, fun a ha => h.own a (by unfold fpsOf at ha ⊢; rw [List.flatMap_cons] at ha; exact ha)⟩
theorem OK.un {v : Option V} (h : OK K l H) : OK K ((IT.un, v) :: l) H := by
  obtain ⟨F, L, e, g⟩ := h
  exact ⟨F, ((IT.un, v), []) :: L, by rw [List.map_cons, e], g.unCons⟩
theorem OK.uns (vs : List (Option V)) (h : OK K l H) : OK K (vs.map (fun v => (IT.un, v)) ++ l) H := by
  induction vs with
  | nil => exact h
  | cons v vs ih => exact ih.un
theorem OK.out {i : Nat} {x : IT} {v : Option V} (e : l[i]? = some (x, v)) (h : OK K l H) : OK K ((x, v) :: l.set i (IT.un, v)) H := (h.un (v := v)).perm (set_perm e)
/-- a known datum once more -/
theorem Held.dCons {F : Hp} {L : List EF} {v : V} {x : PyData} (h : Held K F H L) (hd : Dp K F v x) : Held K F H (((IT.d x, some v), []) :: L) :=
  ⟨h.ext, fun y hy => by
    rcases List.mem_cons.mp hy with e | e
    · subst e; exact ⟨rfl, v, rfl, hd⟩
    · exact h.ent y e, by unfold fpsOf; rw [List.flatMap_cons]; exact h.nd, fun a ha => h.own a (by unfold fpsOf at ha ⊢; rw [List.flatMap_cons] at ha; exact ha)⟩
theorem mem_map1 {L : List EF} {y : En} (h : y ∈ L.map (·.1)) : ∃ fp, (y, fp) ∈ L := by
  obtain ⟨z, hz, e⟩ := List.mem_map.mp h
  exact ⟨z.2, by rw [← e]; exact hz⟩
theorem OK.dup {x : PyData} {v : Option V} (m : (IT.d x, v) ∈ l) (h : OK K l H) : ∃ u, v = some u ∧ Dp K H u x ∧ OK K ((IT.d x, some u) :: l) H := by
  obtain ⟨F, L, e, g⟩ := h
  subst e
  obtain ⟨fp, hm⟩ := mem_map1 m
  obtain ⟨_, u, e1, hd⟩ := g.ent _ hm
  exact ⟨u, e1, dpUp g.ext x u hd, F, _, by simp, g.dCons hd⟩
/-- plain values need nothing of the heap -/
def flat : V → PyData → Prop
  | .non, .none => True
  | .bl b, .bool c => b = c
  | .int i, .int j => i = j
  | .str x, .str y => x = y
  | _, _ => False
theorem flatDp {F : Hp} {v : V} {x : PyData} (h : flat v x) : Dp K F v x := by
  cases v <;> cases x <;> first | exact h.elim | skip
  · exact .non
  · have e : _ = _ := h; subst e; exact .bl _
  · have e : _ = _ := h; subst e; exact .int _
  · have e : _ = _ := h; subst e; exact .str _
theorem OK.flat {x : PyData} {v : V} (f : flat v x) (h : OK K l H) : OK K ((IT.d x, some v) :: l) H := by
  obtain ⟨F, L, e, g⟩ := h
  exact ⟨F, _, by simp [e], g.dCons (flatDp f)⟩

/-! ### new objects -/
def ds2 (ds : List PyData) (vs : List V) : List En := List.zipWith (fun x v => (IT.d x, some v)) ds vs
theorem held_ds {F : Hp} : ∀ {ds : List PyData} {vs : List V} {L : List EF}, ds.length = vs.length → L.map (·.1) = ds2 ds vs ++ l → Held K F H L → DpAll K F vs ds
  | [], [], L, _, _, _ => .nil
  | d :: ds, v :: vs, L, h, e, g => by
    cases L with
    | nil => simp [ds2] at e
    | cons y L =>
      simp only [ds2, List.zipWith_cons_cons, List.map_cons, List.cons_append, List.cons.injEq] at e
      obtain ⟨e1, e2⟩ := e
      have k := g.ent y List.mem_cons_self
      rw [e1] at k
      obtain ⟨_, u, eu, hd⟩ := k
      cases eu
      exact .cons hd (held_ds (by simpa using h) e2 g.tail)
  | [], v :: vs, L, h, _, _ => by simp at h
  | d :: ds, [], L, h, _, _ => by simp at h
theorem Held.grow {F F' : Hp} {L : List EF} (h : Held K F H L) (e1 : Ext F F') (e2 : Ext F' H') (k : ∀ a ∈ fpsOf L, ∀ o, H a = some o → H' a = some o) (n : ∀ a ∈ fpsOf L, F' a = none) : Held K F' H' L :=
  ⟨e2, fun x hx => (h.ent x hx).up e1 fun a ha o ho => k a (mem_fps.mpr ⟨x, hx, ha⟩) o ho, h.nd, fun a ha => ⟨n a ha, by
    obtain ⟨o, ho⟩ := (h.own a ha).2
    exact ⟨o, k a ha o ho⟩⟩⟩
theorem ext_none {F : Hp} {p : Addr} (e : Ext F H) (h : H p = none) : F p = none := by
  cases q : F p with
  | none => rfl
  | some o => rw [e p o q] at h; cases h
/-- a new thing laid, of the frozen part -/
theorem Held.frozen {F : Hp} {L : List EF} {p : Addr} {o : HO} (h : Held K F H L) (hp : H p = none) : Held K (upd F p o) (upd H p o) L := by
  have np : ∀ a ∈ fpsOf L, a ≠ p := fun a ha z => by
    obtain ⟨u, hu⟩ := (h.own a ha).2
    rw [z, hp] at hu
    cases hu
  refine h.grow (Ext.up (ext_none h.ext hp)) (fun a u q => ?_) (fun a ha u hu => ?_) fun a ha => ?_
  · by_cases e : a = p
    · subst e; rw [upd_same] at q ⊢; exact q
    · rw [upd_ne e] at q ⊢; exact h.ext a u q
  · rw [upd_ne (np a ha)]; exact hu
  · rw [upd_ne (np a ha)]; exact (h.own a ha).1
/-- .. of its own -/
theorem Held.fresh {F : Hp} {L : List EF} {p : Addr} {o : HO} (h : Held K F H L) (hp : H p = none) : Held K F (upd H p o) L :=
  h.grow (Ext.refl F) (fun a u q => by
    have e := h.ext a u q
    rw [upd_ne (ne_of_none e hp)]
    exact e) (fun a ha u hu => by rw [upd_ne (ne_of_none hu hp)]; exact hu) fun a ha => (h.own a ha).1
theorem OK.split {k : List En} (h : OK K (k ++ l) H) : ∃ F L1 L2, L1.map (·.1) = k ∧ L2.map (·.1) = l ∧ Held K F H (L1 ++ L2) := by
  obtain ⟨F, L, e, g⟩ := h
  obtain ⟨L1, L2, e1, e2, e3⟩ := List.map_eq_append_iff.mp e
  subst e1
  exact ⟨F, L1, L2, e2, e3, g⟩
theorem Held.right {F : Hp} {L1 L2 : List EF} (h : Held K F H (L1 ++ L2)) : Held K F H L2 := by
  induction L1 with
  | nil => exact h
  | cons x L ih => exact ih h.tail
theorem OK.tup {ds : List PyData} {vs : List V} {p : Addr} (hl : ds.length = vs.length) (h : OK K (ds2 ds vs ++ l) H) (hp : H p = none) : OK K ((IT.d (.tuple ds), some (.ref p)) :: l) (upd H p (.tup vs)) := by
  obtain ⟨F, L1, L2, e1, e2, g⟩ := h.split
  have q : DpAll K F vs ds := held_ds (l := l) hl (by rw [List.map_append, e1, e2]) g
  have q2 : DpAll K (upd F p (.tup vs)) vs ds := dpsUp (Ext.up (ext_none g.ext hp)) ds vs q
  exact ⟨_, _, by simp [e2], (g.right.frozen hp).dCons (.tup (.of upd_same) q2)⟩
theorem OK.lstD {ds : List PyData} {vs : List V} {p : Addr} (hl : ds.length = vs.length) (h : OK K (ds2 ds vs ++ l) H) (hp : H p = none) : OK K ((IT.d (.list ds), some (.ref p)) :: l) (upd H p (.lst vs)) := by
  obtain ⟨F, L1, L2, e1, e2, g⟩ := h.split
  have q : DpAll K F vs ds := held_ds (l := l) hl (by rw [List.map_append, e1, e2]) g
  have q2 : DpAll K (upd F p (.lst vs)) vs ds := dpsUp (Ext.up (ext_none g.ext hp)) ds vs q
  exact ⟨_, _, by simp [e2], (g.right.frozen hp).dCons (.lst (.of upd_same) q2)⟩

/-- a list of its own -/
def OL (ds : List PyData) : Own where
  holds := fun K F H v fp => ∃ p vs, v = .ref p ∧ fp = [p] ∧ H p = some (.lst vs) ∧ DpAll K F vs ds
  stay := fun ⟨p, vs, e1, e2, e3, e4⟩ e k => ⟨p, vs, e1, e2, k p (by rw [e2]; simp) _ e3, dpsUp e _ _ e4⟩
theorem Held.oCons {F : Hp} {L : List EF} {v : V} {P : Own} {fp : List Addr} (h : Held K F H L) (hP : P.holds K F H v fp) (nd : fp.Nodup) (dj : ∀ a ∈ fp, a ∉ fpsOf L) (ow : ∀ a ∈ fp, F a = none ∧ ∃ o, H a = some o) : Held K F H (((IT.o P, some v), fp) :: L) := by
  refine ⟨h.ext, fun y hy => ?_, ?_, fun a ha => ?_⟩
  · rcases List.mem_cons.mp hy with e | e
    · subst e; exact ⟨v, rfl, hP⟩
    · exact h.ent y e
  · unfold fpsOf
    rw [List.flatMap_cons]
    exact List.nodup_append.mpr ⟨nd, h.nd, fun a ha b hb z => dj a ha (by rw [z]; exact hb)⟩
  · unfold fpsOf at ha
    rw [List.flatMap_cons] at ha
    rcases List.mem_append.mp ha with ha | ha
    · exact ow a ha
    · exact h.own a ha
theorem OK.lst {ds : List PyData} {vs : List V} {p : Addr} (hl : ds.length = vs.length) (h : OK K (ds2 ds vs ++ l) H) (hp : H p = none) : OK K ((IT.o (OL ds), some (.ref p)) :: l) (upd H p (.lst vs)) := by
  obtain ⟨F, L1, L2, e1, e2, g⟩ := h.split
  have q : DpAll K F vs ds := held_ds (l := l) hl (by rw [List.map_append, e1, e2]) g
  have g2 := g.right.fresh (o := .lst vs) hp
  refine ⟨F, _, by simp [e2], g2.oCons (v := .ref p) (P := OL ds) (fp := [p]) ⟨p, vs, rfl, rfl, upd_same, q⟩ (by simp) (fun a ha hb => ?_) fun a ha => ?_⟩
  · have e : a = p := by simpa using ha
    subst e
    obtain ⟨u, hu⟩ := (g.right.own a hb).2
    rw [hp] at hu
    cases hu
  · have e : a = p := by simpa using ha
    subst e
    exact ⟨ext_none g.ext hp, _, upd_same⟩
/-- an owned thing at the front is changed at addresses of its own -/
theorem Held.change {F : Hp} {L : List EF} {v : V} {P Q : Own} {fp : List Addr} (h : Held K F H (((IT.o P, some v), fp) :: L)) (hQ : Q.holds K F H' v fp) (k : ∀ a o, a ∉ fp → H a = some o → H' a = some o) (t : ∀ a ∈ fp, ∃ o, H' a = some o) :
    Held K F H' (((IT.o Q, some v), fp) :: L) := by
  have nd := h.nd
  unfold fpsOf at nd
  rw [List.flatMap_cons] at nd
  obtain ⟨n1, n2, n3⟩ := List.nodup_append.mp nd
  have own : ∀ a ∈ fp, F a = none := fun a ha => (h.own a (mem_fps.mpr ⟨_, List.mem_cons_self, ha⟩)).1
  refine (h.tail.grow (Ext.refl F) (fun a u q => k a u (fun z => by rw [own a z] at q; cases q) (h.ext a u q)) (fun a ha u hu => k a u (fun z => n3 a z a ha rfl) hu) fun a ha => (h.tail.own a ha).1).oCons hQ n1 (fun a ha hb => n3 a ha a hb rfl) fun a ha => ⟨own a ha, t a ha⟩
end
end Z

namespace Z
open PySem L2

/-! ### the frozen part by name -/
def Fz (K : PySem.W.Frag) (F : Hp) (l : List En) (H : Hp) : Prop := ∃ L, L.map (·.1) = l ∧ Held K F H L
section
variable {K : PySem.W.Frag} {H H' F : Hp} {l l' : List En}
theorem OK.fz (h : OK K l H) : ∃ F, Fz K F l H := let ⟨F, L, e, g⟩ := h; ⟨F, L, e, g⟩
theorem Fz.ok (h : Fz K F l H) : OK K l H := let ⟨L, e, g⟩ := h; ⟨F, L, e, g⟩
theorem Fz.ext (h : Fz K F l H) : Ext F H := let ⟨_, _, g⟩ := h; g.ext
theorem Fz.perm (p : l.Perm l') (h : Fz K F l H) : Fz K F l' H := by
  obtain ⟨L, e, g⟩ := h
  obtain ⟨L', e', q⟩ := lift_perm p e
  exact ⟨L', e', g.perm q⟩
theorem Fz.tail {x : En} (h : Fz K F (x :: l) H) : Fz K F l H := by
  obtain ⟨L, e, g⟩ := h
  cases L with
  | nil => simp at e
  | cons y L => simp at e; exact ⟨L, e.2, g.tail⟩
theorem Fz.at {x : PyData} {v : Option V} (h : Fz K F l H) (m : (IT.d x, v) ∈ l) : ∃ u, v = some u ∧ Dp K F u x := by
  obtain ⟨L, e, g⟩ := h
  subst e
  obtain ⟨fp, hm⟩ := mem_map1 m
  obtain ⟨_, u, e1, hd⟩ := g.ent _ hm
  exact ⟨u, e1, hd⟩
theorem Fz.own {P : Own} {v : Option V} (h : Fz K F l H) (m : (IT.o P, v) ∈ l) : ∃ u fp, v = some u ∧ P.holds K F H u fp := by
  obtain ⟨L, e, g⟩ := h
  subst e
  obtain ⟨fp, hm⟩ := mem_map1 m
  obtain ⟨u, e1, hd⟩ := g.ent _ hm
  exact ⟨u, fp, e1, hd⟩
theorem Fz.add {x : PyData} {v : V} (h : Fz K F l H) (d : Dp K F v x) : Fz K F ((IT.d x, some v) :: l) H := by
  obtain ⟨L, e, g⟩ := h
  exact ⟨(((IT.d x, some v), []) :: L), by rw [List.map_cons, e], g.dCons d⟩
theorem Fz.un {v : Option V} (h : Fz K F l H) : Fz K F ((IT.un, v) :: l) H := by
  obtain ⟨L, e, g⟩ := h
  exact ⟨(((IT.un, v), []) :: L), by rw [List.map_cons, e], g.unCons⟩
theorem Fz.tup {ds : List PyData} {vs : List V} {p : Addr} (h : Fz K F l H) (q : DpAll K F vs ds) (hp : H p = none) : OK K ((IT.d (.tuple ds), some (.ref p)) :: l) (upd H p (.tup vs)) := by
  obtain ⟨L, e, g⟩ := h
  have q2 : DpAll K (upd F p (.tup vs)) vs ds := dpsUp (Ext.up (ext_none g.ext hp)) ds vs q
  exact ⟨_, _, by rw [List.map_cons, e], (g.frozen hp).dCons (v := .ref p) (.tup (.of upd_same) q2)⟩
theorem Fz.lstD {ds : List PyData} {vs : List V} {p : Addr} (h : Fz K F l H) (q : DpAll K F vs ds) (hp : H p = none) : OK K ((IT.d (.list ds), some (.ref p)) :: l) (upd H p (.lst vs)) := by
  obtain ⟨L, e, g⟩ := h
  have q2 : DpAll K (upd F p (.lst vs)) vs ds := dpsUp (Ext.up (ext_none g.ext hp)) ds vs q
  exact ⟨_, _, by rw [List.map_cons, e], (g.frozen hp).dCons (v := .ref p) (.lst (.of upd_same) q2)⟩
/-- a new thing of its own, at one address -/
theorem Fz.newO {P : Own} {o : HO} {p : Addr} (h : Fz K F l H) (hp : H p = none) (hP : P.holds K F (upd H p o) (.ref p) [p]) : OK K ((IT.o P, some (.ref p)) :: l) (upd H p o) := by
  obtain ⟨L, e, g⟩ := h
  refine ⟨F, _, by rw [List.map_cons, e], (g.fresh (o := o) hp).oCons (v := .ref p) (P := P) (fp := [p]) hP (by simp) (fun a ha hb => ?_) fun a ha => ?_⟩
  · have e : a = p := by simpa using ha
    subst e
    obtain ⟨u, hu⟩ := (g.own a hb).2
    rw [hp] at hu
    cases hu
  · have e : a = p := by simpa using ha
    subst e
    exact ⟨ext_none g.ext hp, _, upd_same⟩
theorem Fz.lstO {ds : List PyData} {vs : List V} {p : Addr} (h : Fz K F l H) (q : DpAll K F vs ds) (hp : H p = none) : OK K ((IT.o (OL ds), some (.ref p)) :: l) (upd H p (.lst vs)) :=
  h.newO hp ⟨p, vs, rfl, rfl, upd_same, q⟩
/-- the list at the front is another one -/
theorem Fz.putL {ds ds' : List PyData} {v : V} (h : Fz K F ((IT.o (OL ds), some v) :: l) H) : ∃ p vs, v = .ref p ∧ H p = some (.lst vs) ∧ DpAll K F vs ds ∧
    ∀ ds' vs', DpAll K F vs' ds' → OK K ((IT.o (OL ds'), some v) :: l) (upd H p (.lst vs')) := by
  obtain ⟨L, e, g⟩ := h
  cases L with
  | nil => simp at e
  | cons y L =>
    obtain ⟨y1, fp⟩ := y
    simp at e
    obtain ⟨e1, e2⟩ := e
    subst e1
    obtain ⟨u, e3, p, vs, e4, e5, e6, e7⟩ := g.ent _ List.mem_cons_self
    have e3' : v = u := Option.some.inj e3
    subst e3'
    have e5' : fp = [p] := e5
    subst e5'
    refine ⟨p, vs, e4, e6, e7, fun ds' vs' q => ⟨F, _, ?_, g.change (H' := upd H p (.lst vs')) (Q := OL ds') ⟨p, vs', e4, rfl, upd_same, q⟩ (fun a o ha ho => ?_) fun a ha => ?_⟩⟩
    · rw [List.map_cons, e2]
    · rw [upd_ne (by simpa using ha)]; exact ho
    · have e : a = p := by simpa using ha
      subst e
      exact ⟨_, upd_same⟩
/-- the list at the front is kept for good -/
theorem Fz.freeze {ds : List PyData} {v : V} (h : Fz K F ((IT.o (OL ds), some v) :: l) H) : OK K ((IT.d (.list ds), some v) :: l) H := by
  obtain ⟨L, e, g⟩ := h
  cases L with
  | nil => simp at e
  | cons y L =>
    obtain ⟨y1, fp⟩ := y
    simp at e
    obtain ⟨e1, e2⟩ := e
    subst e1
    obtain ⟨u, e3, p, vs, e4, e5, e6, e7⟩ := g.ent _ List.mem_cons_self
    have e3' : v = u := Option.some.inj e3
    subst e3'
    have e5' : fp = [p] := e5
    subst e5'
    have nF : F p = none := (g.own p (mem_fps.mpr ⟨_, List.mem_cons_self, by simp⟩)).1
    have nd := g.nd
    unfold fpsOf at nd
    rw [List.flatMap_cons] at nd
    obtain ⟨_, _, n3⟩ := List.nodup_append.mp nd
    have g2 : Held K (upd F p (.lst vs)) H L := g.tail.grow (Ext.up nF) (fun a o q => by
      by_cases ea : a = p
      · subst ea; rw [upd_same] at q; cases q; exact e6
      · rw [upd_ne ea] at q; exact g.ext a o q) (fun _ _ _ q => q) fun a ha => by
        rw [upd_ne (fun z => n3 p (by simp) a ha z.symm)]
        exact (g.tail.own a ha).1
    refine ⟨upd F p (.lst vs), (((IT.d (.list ds), some v), []) :: L), by rw [List.map_cons, e2], g2.dCons ?_⟩
    subst e4
    exact .lst (.of upd_same) (dpsUp (Ext.up nF) _ _ e7)
end

/-! ### the state -/
inductive SD where
  | un | d (x : PyData) | r (j : Nat)
def itOf : SD → IT
  | .d x => .d x
  | _ => .un
structure S where
  e : List SD
  R : List Own
def ES (e : List SD) (σ : L2.St) : List En := List.zipWith (fun s v => (itOf s, v)) e σ
def RS (R : List Own) (ρ : List V) : List En := List.zipWith (fun P v => (IT.o P, some v)) R ρ
structure Sat (K : PySem.W.Frag) (s : S) (σ : L2.St) (ρ : List V) (T : List En) (H : Hp) : Prop where
  le : s.e.length = σ.length
  lr : s.R.length = ρ.length
  al : ∀ (i j : Nat), s.e[i]? = some (SD.r j) → ∃ v : V, σ[i]? = some (some v) ∧ ρ[j]? = some v
  ok : OK K (T ++ (ES s.e σ ++ RS s.R ρ)) H
/-- a value that is a reference is the one of the store -/
def VR (r : SD) (ρ : List V) (v : V) : Prop := match r with
  | .r j => ρ[j]? = some v
  | _ => True
theorem VR.mono {r : SD} {ρ ρ' : List V} {v : V} (h : VR r ρ v) (p : ρ <+: ρ') : VR r ρ' v := by
  cases r with
  | r j =>
    obtain ⟨m, rfl⟩ := p
    have h' : ρ[j]? = some v := h
    show (ρ ++ m)[j]? = some v
    rw [List.getElem?_append_left (List.getElem?_eq_some_iff.mp h').1]
    exact h'
  | _ => trivial

theorem es_get {e : List SD} {σ : L2.St} {i : Nat} {a : SD} {v : Option V} (h1 : e[i]? = some a) (h2 : σ[i]? = some v) : (ES e σ)[i]? = some (itOf a, v) := by
  unfold ES
  rw [List.getElem?_zipWith, h1, h2]
theorem rs_get {R : List Own} {ρ : List V} {i : Nat} {P : Own} {v : V} (h1 : R[i]? = some P) (h2 : ρ[i]? = some v) : (RS R ρ)[i]? = some (IT.o P, some v) := by
  unfold RS
  rw [List.getElem?_zipWith, h1, h2]
theorem get_of_len {α β : Type} {l : List α} {m : List β} (h : l.length = m.length) {i : Nat} {a : α} (e : l[i]? = some a) : ∃ b, m[i]? = some b := by
  obtain ⟨hi, _⟩ := List.getElem?_eq_some_iff.mp e
  exact ⟨m[i]'(by omega), List.getElem?_eq_getElem (by omega)⟩
section
variable {K : PySem.W.Frag} {s : S} {σ : L2.St} {ρ : List V} {T : List En} {H : Hp}
theorem Sat.tperm {T' : List En} (p : T.Perm T') (h : Sat K s σ ρ T H) : Sat K s σ ρ T' H := ⟨h.le, h.lr, h.al, h.ok.perm (p.append_right _)⟩
theorem Sat.tdrop {x : En} (h : Sat K s σ ρ (x :: T) H) : Sat K s σ ρ T H := ⟨h.le, h.lr, h.al, OK.tail h.ok⟩
theorem Sat.tdrops {T1 : List En} (h : Sat K s σ ρ (T1 ++ T) H) : Sat K s σ ρ T H := ⟨h.le, h.lr, h.al, OK.right (k := T1) (by rw [← List.append_assoc]; exact h.ok)⟩
theorem Sat.tun {v : Option V} (h : Sat K s σ ρ T H) : Sat K s σ ρ ((IT.un, v) :: T) H := ⟨h.le, h.lr, h.al, h.ok.un⟩
theorem Sat.tflat {x : PyData} {v : V} (f : flat v x) (h : Sat K s σ ρ T H) : Sat K s σ ρ ((IT.d x, some v) :: T) H := ⟨h.le, h.lr, h.al, h.ok.flat f⟩
theorem Sat.slot {i : Nat} {x : PyData} (h : Sat K s σ ρ T H) (e : s.e[i]? = some (SD.d x)) : ∃ v : V, σ[i]? = some (some v) ∧ Sat K s σ ρ ((IT.d x, some v) :: T) H := by
  obtain ⟨ov, h2⟩ := get_of_len h.le e
  have m : (IT.d x, ov) ∈ T ++ (ES s.e σ ++ RS s.R ρ) := List.mem_append_right _ (List.mem_append_left _ (List.mem_of_getElem? (es_get e h2)))
  obtain ⟨u, e1, _, ok⟩ := h.ok.dup m
  subst e1
  exact ⟨u, h2, h.le, h.lr, h.al, ok⟩
/-- a store to a slot, of the value on top -/
theorem Sat.put {i : Nat} {r : SD} {v : V} (hi : i < s.e.length) (vr : VR r ρ v) (h : Sat K s σ ρ ((itOf r, some v) :: T) H) : Sat K ⟨s.e.set i r, s.R⟩ (σ.set i (some v)) ρ T H := by
  have hσ : i < σ.length := by rw [← h.le]; exact hi
  refine ⟨by simp [h.le], h.lr, fun k j e => ?_, ?_⟩
  · by_cases hk : k = i
    · subst hk
      simp only [List.getElem?_set_self hi, Option.some.injEq] at e
      subst e
      exact ⟨v, by rw [List.getElem?_set_self hσ], vr⟩
    · simp only [List.getElem?_set_ne (Ne.symm hk)] at e
      obtain ⟨w, e1, e2⟩ := h.al k j e
      exact ⟨w, by rw [List.getElem?_set_ne (Ne.symm hk)]; exact e1, e2⟩
  · have q : ES (s.e.set i r) (σ.set i (some v)) = (ES s.e σ).set i (itOf r, some v) := by
      unfold ES
      apply List.ext_getElem?
      intro k
      rw [List.getElem?_zipWith]
      by_cases hk : k = i
      · subst hk
        rw [List.getElem?_set_self hi, List.getElem?_set_self hσ, List.getElem?_set_self (by rw [List.length_zipWith]; omega)]
      · rw [List.getElem?_set_ne (Ne.symm hk), List.getElem?_set_ne (Ne.symm hk), List.getElem?_set_ne (Ne.symm hk), List.getElem?_zipWith]
    have hz : i < (ES s.e σ).length := by unfold ES; rw [List.length_zipWith]; omega
    have k : OK K ((T ++ (ES s.e σ ++ RS s.R ρ)).set (T.length + i) (itOf r, some v)) H := OK.set (T.length + i) h.ok
    rw [List.set_append_right _ _ (Nat.le_add_right _ _), Nat.add_sub_cancel_left, List.set_append_left _ _ hz, ← q] at k
    exact k
/-- a new object for the store, from the top -/
theorem Sat.push {P : Own} {v : V} (h : OK K ((IT.o P, some v) :: (T ++ (ES s.e σ ++ RS s.R ρ))) H) (le : s.e.length = σ.length) (lr : s.R.length = ρ.length) (al : ∀ (i j : Nat), s.e[i]? = some (SD.r j) → ∃ v : V, σ[i]? = some (some v) ∧ ρ[j]? = some v) :
    Sat K ⟨s.e, s.R ++ [P]⟩ σ (ρ ++ [v]) T H := by
  refine ⟨le, by simp [lr], fun i j e => ?_, ?_⟩
  · obtain ⟨w, e1, e2⟩ := al i j e
    exact ⟨w, e1, by rw [List.getElem?_append_left (List.getElem?_eq_some_iff.mp e2).1]; exact e2⟩
  · have q : RS (s.R ++ [P]) (ρ ++ [v]) = RS s.R ρ ++ [(IT.o P, some v)] := by
      unfold RS
      rw [List.zipWith_append lr]
      rfl
    rw [show (⟨s.e, s.R ++ [P]⟩ : S).R = s.R ++ [P] from rfl, q]
    refine h.perm ?_
    show ((IT.o P, some v) :: (T ++ (ES s.e σ ++ RS s.R ρ))).Perm (T ++ (ES s.e σ ++ (RS s.R ρ ++ [(IT.o P, some v)])))
    rw [← List.append_assoc, ← List.append_assoc, ← List.append_assoc]
    exact (List.perm_append_singleton _ _).symm
/-- the j-th object of the store to the front -/
theorem rs_set {R : List Own} {ρ : List V} (lr : R.length = ρ.length) {j : Nat} {P : Own} {v : V} (e : ρ[j]? = some v) : RS (R.set j P) ρ = (RS R ρ).set j (IT.o P, some v) := by
  obtain ⟨hj, ej⟩ := List.getElem?_eq_some_iff.mp e
  unfold RS
  apply List.ext_getElem?
  intro k
  rw [List.getElem?_zipWith]
  by_cases hk : k = j
  · subst hk
    rw [List.getElem?_set_self (by omega), e, List.getElem?_set_self (by simp [List.length_zipWith]; omega)]
  · rw [List.getElem?_set_ne (Ne.symm hk), List.getElem?_set_ne (Ne.symm hk), List.getElem?_zipWith]
theorem Sat.obj {j : Nat} {P : Own} (h : Sat K s σ ρ T H) (e : s.R[j]? = some P) : ∃ v, ρ[j]? = some v ∧
    OK K ((IT.o P, some v) :: (T ++ (ES s.e σ ++ (RS s.R ρ).set j (IT.un, some v)))) H ∧
    ∀ (H' : Hp) (Q : Own), OK K ((IT.o Q, some v) :: (T ++ (ES s.e σ ++ (RS s.R ρ).set j (IT.un, some v)))) H' → Sat K ⟨s.e, s.R.set j Q⟩ σ ρ T H' := by
  obtain ⟨v, h2⟩ := get_of_len h.lr e
  have g := rs_get e h2
  have hz : j < (RS s.R ρ).length := (List.getElem?_eq_some_iff.mp g).1
  have n1 : ∀ x : En, (T ++ (ES s.e σ ++ RS s.R ρ)).set (T.length + ((ES s.e σ).length + j)) x = T ++ (ES s.e σ ++ (RS s.R ρ).set j x) := fun x => by
    rw [List.set_append_right _ _ (Nat.le_add_right _ _), Nat.add_sub_cancel_left, List.set_append_right _ _ (Nat.le_add_right _ _), Nat.add_sub_cancel_left]
  refine ⟨v, h2, ?_, fun H' Q ok => ?_⟩
  · rw [← n1]
    refine h.ok.out ?_
    rw [List.getElem?_append_right (Nat.le_add_right _ _), Nat.add_sub_cancel_left, List.getElem?_append_right (Nat.le_add_right _ _), Nat.add_sub_cancel_left]
    exact g
  · refine ⟨h.le, by simpa using h.lr, h.al, ?_⟩
    have k := ok.set (T.length + ((ES s.e σ).length + j))
    rw [← n1, List.set_set, n1, ← rs_set h.lr h2] at k
    exact k
end
end Z

namespace Z
open PySem L2

/-! ### judgements -/
def tE (K : PySem.W.Frag) (s : S) (r : SD) (s' : S) : TE := fun σ H Q => ∃ T ρ, Sat K s σ ρ T H ∧ ∀ v ρ' H', ρ <+: ρ' → VR r ρ' v → Sat K s' σ ρ' ((itOf r, some v) :: T) H' → Q v H'
def ZE (X : Cx) (ex : Expr) (s : S) (r : SD) (s' : S) : Prop := PE X ex (tE X.K s r s')
def tT (K : PySem.W.Frag) (s : S) (R : Bool → S → Prop) : TT := fun σ H Q => ∃ T ρ, Sat K s σ ρ T H ∧ ∀ b s' ρ' H', R b s' → ρ <+: ρ' → Sat K s' σ ρ' T H' → Q b H'
def ZT (X : Cx) (ex : Expr) (s : S) (R : Bool → S → Prop) : Prop := PT X ex (tT X.K s R)
def ZW (X : Cx) (ex : Expr) (s : S) (R : Bool → S → Prop) : Prop := PW X ex (tT X.K s R)
/-- just this answer -/
def Is (b : Bool) (s : S) : Bool → S → Prop := fun c t => c = b ∧ t = s
def its (rs : List SD) (vs : List V) : List En := List.zipWith (fun r v => (itOf r, some v)) rs vs
def VRs (rs : List SD) (ρ : List V) (vs : List V) : Prop := rs.length = vs.length ∧ ∀ (i : Nat) (r : SD) (v : V), rs[i]? = some r → vs[i]? = some v → VR r ρ v
def tA (K : PySem.W.Frag) (s : S) (rs : List SD) (s' : S) : TA := fun σ H Q => ∃ T ρ, Sat K s σ ρ T H ∧ ∀ vs ρ' H', ρ <+: ρ' → VRs rs ρ' vs → Sat K s' σ ρ' (its rs vs ++ T) H' → Q vs H'
def ZA (X : Cx) (es : List Expr) (s : S) (rs : List SD) (s' : S) : Prop := PA X es (tA X.K s rs s')
structure Po where
  b : Nat
  nx : S → Prop
  rt : SD → S → Prop
  bk : S → Prop := fun _ => False
  ct : S → Prop := fun _ => False
structure Meets (K : PySem.W.Frag) (P : Po) (ρ : List V) (T : List En) (D : Ends) : Prop where
  nx : ∀ s' σ' ρ' H', P.nx s' → ρ <+: ρ' → Sat K s' σ' ρ' T H' → D.nx σ' H'
  rt : ∀ r s' σ' ρ' H' v, P.rt r s' → ρ <+: ρ' → VR r ρ' v → Sat K s' σ' ρ' ((itOf r, some v) :: T) H' → D.rt v H'
  bk : ∀ s' σ' ρ' H', P.bk s' → ρ <+: ρ' → Sat K s' σ' ρ' T H' → D.bk σ' H'
  ct : ∀ s' σ' ρ' H', P.ct s' → ρ <+: ρ' → Sat K s' σ' ρ' T H' → D.ct σ' H'
def tS (K : PySem.W.Frag) (M : S → Prop) (P : Po) : TS := fun D σ H => ∃ s T ρ, M s ∧ P.b ≤ ρ.length ∧ Sat K s σ ρ T H ∧ Meets K P (ρ.take P.b) T D
def ZS (X : Cx) (st : Stmt) (s : S) (P : Po) : Prop := PS X st (tS X.K (fun t => t = s) P)
def ZSs (X : Cx) (sts : List Stmt) (s : S) (P : Po) : Prop := PSs X sts (tS X.K (fun t => t = s) P)

section
variable {X : Cx} {e a b c : Expr} {es : List Expr} {s s' s1 s2 s3 : S} {r r1 r2 : SD} {rs : List SD} {pos : Pos}
theorem PE.imp {t t' : TE} (h : PE X e t) (i : ∀ σ H Q, t' σ H Q → t σ H Q) : PE X e t' := ⟨fun pins s σ H Q I q => h.run pins s σ H Q I (i σ H Q q)⟩
theorem PT.imp {t t' : TT} (h : PT X e t) (i : ∀ σ H Q, t' σ H Q → t σ H Q) : PT X e t' := ⟨fun pins s σ H Q I q => h.run pins s σ H Q I (i σ H Q q)⟩
theorem PW.imp {t t' : TT} (h : PW X e t) (i : ∀ σ H Q, t' σ H Q → t σ H Q) : PW X e t' := ⟨fun w pins s σ H Q I q => h.run w pins s σ H Q I (i σ H Q q)⟩
theorem PA.imp {t t' : TA} (h : PA X es t) (i : ∀ σ H Q, t' σ H Q → t σ H Q) : PA X es t' := ⟨fun pos pins s σ H Q I q => h.run pos pins s σ H Q I (i σ H Q q)⟩
theorem PS.imp {st : Stmt} {t t' : TS} (h : PS X st t) (i : ∀ D σ H, t' D σ H → t D σ H) : PS X st t' := ⟨fun pins s σ H D I q => h.run pins s σ H D I (i D σ H q)⟩
theorem PSs.imp {st : List Stmt} {t t' : TS} (h : PSs X st t) (i : ∀ D σ H, t' D σ H → t D σ H) : PSs X st t' := ⟨fun pins s σ H D I q => h.run pins s σ H D I (i D σ H q)⟩
theorem pre_refl (ρ : List V) : ρ <+: ρ := List.prefix_rfl
/-- the families -/
theorem zss_all {sts : List Stmt} {M : S → Prop} {P : Po} (h : ∀ t, M t → ZSs X sts t P) : PSs X sts (tS X.K M P) :=
  ⟨fun pins sh σ H D I ⟨t, T, ρ, m, hb, g, q⟩ => (h t m).run pins sh σ H D I ⟨t, T, ρ, rfl, hb, g, q⟩⟩
theorem ZE.to (h : ZE X e s r s') (e1 : r = r1) (e2 : s' = s1) : ZE X e s r1 s1 := by subst e1 e2; exact h
theorem ZT.imp {R R' : Bool → S → Prop} (h : ZT X e s R) (i : ∀ b t, R b t → R' b t) : ZT X e s R' :=
  PT.imp h fun σ H Q ⟨T, ρ, g, q⟩ => ⟨T, ρ, g, fun b t ρ' H' hr p g' => q b t ρ' H' (i b t hr) p g'⟩
theorem ZW.imp {R R' : Bool → S → Prop} (h : ZW X e s R) (i : ∀ b t, R b t → R' b t) : ZW X e s R' :=
  PW.imp h fun σ H Q ⟨T, ρ, g, q⟩ => ⟨T, ρ, g, fun b t ρ' H' hr p g' => q b t ρ' H' (i b t hr) p g'⟩
theorem ZW.t {R : Bool → S → Prop} (h : ZW X e s R) : ZT X e s R := PW.pt h

/-! ### names, constants -/
theorem ze_var (i : Nat) {x : Str} (hr : s.e[i]? = some r) (nu : r ≠ .un := by intro h; cases h) (hN : X.N[i]? = some x := by rfl) (hv : Vis X.env.scope x := by first | exact Or.inl rfl | exact Or.inr (Or.inl rfl) | exact Or.inr (Or.inr rfl))
    (hd : (x == ("__debug__" : Str)) = false := by decide) (hcd : (x == ("__classdict__" : Str)) = false := by decide) : ZE X (.Name x pos) s r s := by
  refine PE.imp (pe_var hN hv hd hcd) fun σ H Q ⟨T, ρ, g, q⟩ => ?_
  cases r with
  | un => exact absurd rfl nu
  | d x =>
    obtain ⟨v, e1, g'⟩ := g.slot hr
    exact ⟨v, e1, q v ρ H (pre_refl ρ) trivial g'⟩
  | r j =>
    obtain ⟨v, e1, e2⟩ := g.al i j hr
    exact ⟨v, e1, q v ρ H (pre_refl ρ) e2 g.tun⟩
theorem ze_int {i : Int} {j : Nat} : ZE X (.Constant (.int i) j pos) s (.d (.int i)) s := PE.imp pe_int fun σ H Q ⟨T, ρ, g, q⟩ => q _ ρ H (pre_refl ρ) trivial (g.tflat (show flat (.int i) (.int i) from rfl))
theorem ze_bl {i : Bool} {j : Nat} : ZE X (.Constant (.bool i) j pos) s (.d (.bool i)) s := PE.imp pe_bl fun σ H Q ⟨T, ρ, g, q⟩ => q _ ρ H (pre_refl ρ) trivial (g.tflat (show flat (.bl i) (.bool i) from rfl))
theorem ze_str {i : Str} {j : Nat} : ZE X (.Constant (.str i) j pos) s (.d (.str i)) s := PE.imp pe_str fun σ H Q ⟨T, ρ, g, q⟩ => q _ ρ H (pre_refl ρ) trivial (g.tflat (show flat (.str i) (.str i) from rfl))
theorem ze_non {j : Nat} : ZE X (.Constant .none j pos) s (.d .none) s := PE.imp pe_non fun σ H Q ⟨T, ρ, g, q⟩ => q _ ρ H (pre_refl ρ) trivial (g.tflat (show flat .non .none from trivial))
theorem ze_glob {x : Str} {v : V} {u : Value} {d : PyData} (hm : X.mg x = some u) (rv : RelV v u) (f : flat v d) (hg : Gl X x := by rfl) (hd : (x == ("__debug__" : Str)) = false := by decide) : ZE X (.Name x pos) s (.d d) s :=
  PE.imp (pe_glob hg hm rv hd) fun σ H Q ⟨T, ρ, g, q⟩ => q _ ρ H (pre_refl ρ) trivial (g.tflat f)

/-! ### argument lists, displays -/
theorem za_nil : ZA X [] s [] s := PA.imp pa_nil fun σ H Q ⟨T, ρ, g, q⟩ => q [] ρ H (pre_refl ρ) ⟨rfl, fun _ _ _ h => by simp at h⟩ g
theorem za_cons (h1 : ZE X e s r s1) (h2 : ZA X es s1 rs s2) (hs : starEach (e :: es) X.env = (false, eval e X.env) :: starEach es X.env := by rfl) : ZA X (e :: es) s (r :: rs) s2 := by
  refine PA.imp (pa_cons h1 h2 hs) fun σ H Q ⟨T, ρ, g, q⟩ => ?_
  refine ⟨T, ρ, g, fun v ρ1 H1 p1 vr g1 => ⟨(itOf r, some v) :: T, ρ1, g1, fun vs ρ2 H2 p2 vrs g2 => q (v :: vs) ρ2 H2 (p1.trans p2) ⟨by simp [vrs.1], fun i r' v' e1 e2 => ?_⟩ ?_⟩⟩
  · cases i with
    | zero => simp at e1 e2; subst e1 e2; exact vr.mono p2
    | succ i => exact vrs.2 i r' v' (by simpa using e1) (by simpa using e2)
  · refine g2.tperm ?_
    exact List.perm_middle
theorem its_d : ∀ {ds : List PyData} {vs : List V}, its (ds.map .d) vs = ds2 ds vs
  | [], _ => rfl
  | _ :: _, [] => rfl
  | d :: ds, v :: vs => by
    show _ :: its (ds.map .d) vs = _ :: ds2 ds vs
    rw [its_d]; rfl
theorem fz_ds {K : PySem.W.Frag} {F H : Hp} : ∀ {ds : List PyData} {vs : List V} {l : List En}, ds.length = vs.length → Fz K F (ds2 ds vs ++ l) H → DpAll K F vs ds := fun hl ⟨L, e, g⟩ => held_ds hl e g
theorem ze_tup {ds : List PyData} {k : Nat} (h : ZA X es s (ds.map .d) s') (hz : ds.length ≤ sizeLine := by exact Nat.le_of_ble_eq_true rfl) : ZE X (.Tuple es k pos) s (.d (.tuple ds)) s' := by
  refine PE.imp (pe_tup h) fun σ H Q ⟨T, ρ, g, q⟩ => ?_
  refine ⟨T, ρ, g, fun vs ρ1 H1 p1 vrs g1 => ?_⟩
  have hl : ds.length = vs.length := by have := vrs.1; simpa using this
  refine ⟨by omega, fun p hp => q _ ρ1 _ p1 trivial ?_⟩
  rw [its_d] at g1
  have ok : OK X.K (ds2 ds vs ++ (T ++ (ES s'.e σ ++ RS s'.R ρ1))) H1 := by rw [← List.append_assoc]; exact g1.ok
  obtain ⟨F, f⟩ := ok.fz
  have t := f.tup (fz_ds hl f) hp
  exact ⟨g1.le, g1.lr, g1.al, (t.perm (List.perm_middle.symm)).right⟩
/-- a list, kept for good -/
theorem ze_lstD {ds : List PyData} (h : ZA X es s (ds.map .d) s') (hz : ds.length ≤ sizeLine := by exact Nat.le_of_ble_eq_true rfl) : ZE X (.List es pos) s (.d (.list ds)) s' := by
  refine PE.imp (pe_lst h) fun σ H Q ⟨T, ρ, g, q⟩ => ?_
  refine ⟨T, ρ, g, fun vs ρ1 H1 p1 vrs g1 => ?_⟩
  have hl : ds.length = vs.length := by have := vrs.1; simpa using this
  refine ⟨by omega, fun p hp => q _ ρ1 _ p1 trivial ?_⟩
  rw [its_d] at g1
  have ok : OK X.K (ds2 ds vs ++ (T ++ (ES s'.e σ ++ RS s'.R ρ1))) H1 := by rw [← List.append_assoc]; exact g1.ok
  obtain ⟨F, f⟩ := ok.fz
  have t := f.lstD (fz_ds hl f) hp
  exact ⟨g1.le, g1.lr, g1.al, (t.perm (List.perm_middle.symm)).right⟩
/-- a list of its own -/
theorem ze_lst {ds : List PyData} (h : ZA X es s (ds.map .d) s') (hz : ds.length ≤ sizeLine := by exact Nat.le_of_ble_eq_true rfl) : ZE X (.List es pos) s (.r s'.R.length) ⟨s'.e, s'.R ++ [OL ds]⟩ := by
  refine PE.imp (pe_lst h) fun σ H Q ⟨T, ρ, g, q⟩ => ?_
  refine ⟨T, ρ, g, fun vs ρ1 H1 p1 vrs g1 => ?_⟩
  have hl : ds.length = vs.length := by have := vrs.1; simpa using this
  refine ⟨by omega, fun p hp => q _ (ρ1 ++ [.ref p]) _ (p1.trans (List.prefix_append _ _)) ?_ (Sat.tun ?_)⟩
  · show (ρ1 ++ [V.ref p])[s'.R.length]? = some (.ref p)
    rw [g1.lr, List.getElem?_append_right (Nat.le_refl _), Nat.sub_self]
    rfl
  · rw [its_d] at g1
    have ok : OK X.K (ds2 ds vs ++ (T ++ (ES s'.e σ ++ RS s'.R ρ1))) H1 := by rw [← List.append_assoc]; exact g1.ok
    obtain ⟨F, f⟩ := ok.fz
    have t := f.lstO (fz_ds hl f) hp
    exact Sat.push ((t.perm (List.perm_middle.symm)).right) g1.le g1.lr g1.al

/-! ### what a value is seen as -/
inductive Vw (s : S) : SD → PyData → Prop
  | d (x : PyData) : Vw s (.d x) x
  | r {j : Nat} {ds : List PyData} : s.R[j]? = some (OL ds) → Vw s (.r j) (.list ds)
section
variable {K : PySem.W.Frag} {σ : L2.St} {ρ : List V} {T : List En} {H : Hp} {v : V} {x : PyData}
/-- .. as it stands in the heap -/
theorem Sat.see (g : Sat K s σ ρ T H) (m : (itOf r, some v) ∈ T) (vr : VR r ρ v) (w : Vw s r x) : Dp K H v x := by
  cases w with
  | d x =>
    obtain ⟨u, e1, h, _⟩ := g.ok.dup (List.mem_append_left _ m)
    cases e1
    exact h
  | r e =>
    rename_i j ds
    obtain ⟨w, e2, ok, _⟩ := g.obj e
    have ev : w = v := Option.some.inj (e2.symm.trans vr)
    subst ev
    obtain ⟨F, f⟩ := ok.fz
    obtain ⟨u, fp, e3, p, vs, e4, e5, e6, e7⟩ := f.own List.mem_cons_self
    cases e3
    subst e4
    exact .lst (.of e6) (dpsUp f.ext _ _ e7)
/-- the items of a list: they are kept for good -/
theorem Sat.seeL {ds : List PyData} (g : Sat K s σ ρ T H) (m : (itOf r, some v) ∈ T) (vr : VR r ρ v) (w : Vw s r (.list ds)) :
    ∃ F p vs, v = .ref p ∧ SqL K H p vs ∧ DpAll K F vs ds ∧ Fz K F (T ++ (ES s.e σ ++ RS s.R ρ)) H := by
  obtain ⟨F, f⟩ := g.ok.fz
  cases w with
  | d x =>
    obtain ⟨u, e1, h⟩ := f.at (List.mem_append_left _ m)
    cases e1
    cases h with
    | lst hs ha => exact ⟨F, _, _, rfl, f.ext.l hs, ha, f⟩
  | r e =>
    rename_i j
    obtain ⟨w, e2⟩ := get_of_len g.lr e
    have ev : w = v := Option.some.inj (e2.symm.trans vr)
    subst ev
    have m2 : (IT.o (OL ds), some w) ∈ T ++ (ES s.e σ ++ RS s.R ρ) := List.mem_append_right _ (List.mem_append_right _ (List.mem_of_getElem? (rs_get e e2)))
    obtain ⟨u, fp, e3, p, vs, e4, e5, e6, e7⟩ := f.own m2
    cases e3
    exact ⟨F, p, vs, e4, .of e6, e7, f⟩
theorem Sat.seeT {ds : List PyData} (g : Sat K s σ ρ T H) (m : (itOf r, some v) ∈ T) (w : Vw s r (.tuple ds)) :
    ∃ F p vs, v = .ref p ∧ SqT K H p vs ∧ DpAll K F vs ds ∧ Fz K F (T ++ (ES s.e σ ++ RS s.R ρ)) H := by
  obtain ⟨F, f⟩ := g.ok.fz
  cases w with
  | d x =>
    obtain ⟨u, e1, h⟩ := f.at (List.mem_append_left _ m)
    cases e1
    cases h with
    | tup hs ha => exact ⟨F, _, _, rfl, f.ext.t hs, ha, f⟩
theorem Sat.of (g : Sat K s σ ρ T H) {T' : List En} {H' : Hp} (h : OK K (T' ++ (ES s.e σ ++ RS s.R ρ)) H') : Sat K s σ ρ T' H' := ⟨g.le, g.lr, g.al, h⟩
/-- two at the top of T go -/
theorem Sat.out2 {x y z : En} (g : Sat K s σ ρ (x :: y :: T) H) {H' : Hp} (h : OK K (z :: (x :: y :: T ++ (ES s.e σ ++ RS s.R ρ))) H') : Sat K s σ ρ (z :: T) H' :=
  Sat.of g ((h.perm ((List.perm_append_comm (l₁ := [z]) (l₂ := [x, y])).append_right (T ++ (ES s.e σ ++ RS s.R ρ)))).right (k := [x, y]))
theorem Sat.out1 {x z : En} (g : Sat K s σ ρ (x :: T) H) {H' : Hp} (h : OK K (z :: (x :: T ++ (ES s.e σ ++ RS s.R ρ))) H') : Sat K s σ ρ (z :: T) H' :=
  Sat.of g ((h.perm (List.Perm.swap x z _)).right (k := [x]))
end

/-! ### operations by what they do -/
/-- two values in, one out -/
def Bi (K : PySem.W.Frag) (q : R2) (s : S) (a b z : SD) (s' : S) : Prop := ∀ u w T σ ρ H Q, Sat K s σ ρ ((itOf b, some w) :: (itOf a, some u) :: T) H → VR a ρ u → VR b ρ w →
  (∀ v ρ' H', ρ <+: ρ' → VR z ρ' v → Sat K s' σ ρ' ((itOf z, some v) :: T) H' → Q v H') → q u w H Q
def Un1 (K : PySem.W.Frag) (q : V → Hp → VK → Prop) (s : S) (a z : SD) (s' : S) : Prop := ∀ u T σ ρ H Q, Sat K s σ ρ ((itOf a, some u) :: T) H → VR a ρ u →
  (∀ v ρ' H', ρ <+: ρ' → VR z ρ' v → Sat K s' σ ρ' ((itOf z, some v) :: T) H' → Q v H') → q u H Q
def Ca (K : PySem.W.Frag) (q : List V → Hp → VK → Prop) (s : S) (as : List SD) (z : SD) (s' : S) : Prop := ∀ us T σ ρ H Q, Sat K s σ ρ (its as us ++ T) H → VRs as ρ us →
  (∀ v ρ' H', ρ <+: ρ' → VR z ρ' v → Sat K s' σ ρ' ((itOf z, some v) :: T) H' → Q v H') → q us H Q
variable {z : SD}
theorem bi_run {q : R2} {ra rb : SD} (hq : Bi X.K q s2 ra rb z s3) : ∀ σ H Q, tE X.K s z s3 σ H Q → tOp q (tE X.K s ra s1) (tE X.K s1 rb s2) σ H Q := fun σ H Q ⟨T, ρ, g, k⟩ =>
  ⟨T, ρ, g, fun u ρ1 H1 p1 vr1 g1 => ⟨_, ρ1, g1, fun w ρ2 H2 p2 vr2 g2 => hq u w T σ ρ2 H2 Q g2 (vr1.mono p2) vr2 fun v ρ3 H3 p3 vr3 g3 => k v ρ3 H3 ((p1.trans p2).trans p3) vr3 g3⟩⟩
theorem ze_op {op : Operator} {q : R2} {ra rb : SD} (ho : OpR X (binaryOp op) q) (ha : ZE X a s ra s1) (hb : ZE X b s1 rb s2) (hq : Bi X.K q s2 ra rb z s3) : ZE X (.BinOp a op b pos) s z s3 := PE.imp (pe_op ho ha hb) (bi_run hq)
theorem ze_un {op : UnaryOp} {q : V → Hp → VK → Prop} {ra : SD} (ho : UnR X (unaryOp op) q) (ha : ZE X a s ra s1) (hq : Un1 X.K q s1 ra z s3) : ZE X (.UnaryOp op a pos) s z s3 :=
  PE.imp (pe_un ho ha) fun σ H Q ⟨T, ρ, g, k⟩ => ⟨T, ρ, g, fun u ρ1 H1 p1 vr1 g1 => hq u T σ ρ1 H1 Q g1 vr1 fun v ρ3 H3 p3 vr3 g3 => k v ρ3 H3 (p1.trans p3) vr3 g3⟩
theorem ze_cmp {op : CmpOp} {q : R2} {ra rb : SD} (ho : OpR X (compareOp op) q) (ha : ZE X a s ra s1) (hb : ZE X b s1 rb s2) (hq : Bi X.K q s2 ra rb z s3) (hm : behindInMarks op b = false) : ZE X (.Compare a [op] [b] pos) s z s3 := PE.imp (pe_cmpR ho ha hb hm) (bi_run hq)
theorem zt_cmp {op : CmpOp} {q : R2} {ra rb : SD} {k : Bool} (ho : OpR X (compareOp op) q) (ha : ZE X a s ra s1) (hb : ZE X b s1 rb s2) (hq : Bi X.K q s2 ra rb (.d (.bool k)) s3) (hm : behindInMarks op b = false) : ZT X (.Compare a [op] [b] pos) s (Is k s3) := by
  refine PT.imp (pt_cmpR ho ha hb hm) fun σ H Q ⟨T, ρ, g, q'⟩ => ?_
  refine bi_run (z := .d (.bool k)) hq σ H _ ⟨T, ρ, g, fun v ρ' H' p vr g' => ?_⟩
  obtain ⟨u, e1, h, _⟩ := g'.ok.dup (x := .bool k) (List.mem_append_left _ List.mem_cons_self)
  cases e1
  cases h
  exact ⟨k, rfl, q' k s3 ρ' H' ⟨rfl, rfl⟩ p g'.tdrop⟩
/-- scalars -/
theorem see_int {K : PySem.W.Frag} {σ : L2.St} {ρ : List V} {T : List En} {H : Hp} {v : V} {i : Int} (g : Sat K s σ ρ T H) (m : (itOf (.d (.int i)), some v) ∈ T) : v = .int i := by
  have h := g.see (r := .d (.int i)) m trivial (.d _)
  cases h
  rfl
theorem bi_int {K : PySem.W.Frag} {f : Int → Int → V} {i j : Int} {zd : PyData} (hz : flat (f i j) zd) : Bi K (rI0 f) s (.d (.int i)) (.d (.int j)) (.d zd) s := fun u w T σ ρ H Q g _ _ k => by
  have e1 := see_int (i := j) (v := w) g List.mem_cons_self
  have e2 := see_int (i := i) (v := u) g (List.mem_cons_of_mem _ List.mem_cons_self)
  subst e1 e2
  exact ⟨i, j, rfl, rfl, k _ ρ H (pre_refl ρ) trivial (g.tdrop.tdrop.tflat hz)⟩
theorem bi_intC {K : PySem.W.Frag} {C : Int → Int → Prop} {f : Int → Int → V} {i j : Int} {zd : PyData} (hc : C i j) (hz : flat (f i j) zd) : Bi K (rI C f) s (.d (.int i)) (.d (.int j)) (.d zd) s := fun u w T σ ρ H Q g _ _ k => by
  have e1 := see_int (i := j) (v := w) g List.mem_cons_self
  have e2 := see_int (i := i) (v := u) g (List.mem_cons_of_mem _ List.mem_cons_self)
  subst e1 e2
  exact ⟨i, j, rfl, rfl, hc, k _ ρ H (pre_refl ρ) trivial (g.tdrop.tdrop.tflat hz)⟩
variable {i j : Int}
theorem ze_add (ha : ZE X a s (.d (.int i)) s1) (hb : ZE X b s1 (.d (.int j)) s2) : ZE X (.BinOp a .Add b pos) s (.d (.int (i + j))) s2 := ze_op op_add ha hb (bi_int (show flat (.int _) (.int _) from rfl))
theorem ze_sub (ha : ZE X a s (.d (.int i)) s1) (hb : ZE X b s1 (.d (.int j)) s2) : ZE X (.BinOp a .Sub b pos) s (.d (.int (i - j))) s2 := ze_op op_sub ha hb (bi_int (show flat (.int _) (.int _) from rfl))
theorem ze_mulW (hc : CMulW i j) (ha : ZE X a s (.d (.int i)) s1) (hb : ZE X b s1 (.d (.int j)) s2) : ZE X (.BinOp a .Mult b pos) s (.d (.int (i * j))) s2 := ze_op op_mulW ha hb (bi_intC hc (show flat (.int _) (.int _) from rfl))
theorem ze_mul (hc : CMul i j) (ha : ZE X a s (.d (.int i)) s1) (hb : ZE X b s1 (.d (.int j)) s2) : ZE X (.BinOp a .Mult b pos) s (.d (.int (i * j))) s2 := ze_op op_mul ha hb (bi_intC hc (show flat (.int _) (.int _) from rfl))
theorem ze_divW (hc : CDivW i j) (ha : ZE X a s (.d (.int i)) s1) (hb : ZE X b s1 (.d (.int j)) s2) : ZE X (.BinOp a .FloorDiv b pos) s (.d (.int (i / j))) s2 := ze_op op_fdivW ha hb (bi_intC hc (show flat (.int _) (.int _) from rfl))
theorem ze_div (hc : CDiv i j) (ha : ZE X a s (.d (.int i)) s1) (hb : ZE X b s1 (.d (.int j)) s2) : ZE X (.BinOp a .FloorDiv b pos) s (.d (.int (i / j))) s2 := ze_op op_fdiv ha hb (bi_intC hc (show flat (.int _) (.int _) from rfl))
theorem ze_mod (hc : 0 < j) (ha : ZE X a s (.d (.int i)) s1) (hb : ZE X b s1 (.d (.int j)) s2) : ZE X (.BinOp a .Mod b pos) s (.d (.int (i % j))) s2 := ze_op op_mod ha hb (bi_intC hc (show flat (.int _) (.int _) from rfl))
theorem ze_xor (ha : ZE X a s (.d (.int i)) s1) (hb : ZE X b s1 (.d (.int j)) s2) : ZE X (.BinOp a .BitXor b pos) s (.d (.int (Builtin.bitXor i j))) s2 := ze_op op_xor ha hb (bi_int (show flat (.int _) (.int _) from rfl))
theorem ze_neg (ha : ZE X a s (.d (.int i)) s1) : ZE X (.UnaryOp .USub a pos) s (.d (.int (-i))) s1 := ze_un un_neg ha fun u T σ ρ H Q g _ k => by
  have e2 := see_int (i := i) (v := u) g List.mem_cons_self
  subst e2
  exact ⟨i, rfl, k _ ρ H (pre_refl ρ) trivial (g.tdrop.tflat (show flat (.int _) (.int _) from rfl))⟩
theorem ze_lt (ha : ZE X a s (.d (.int i)) s1) (hb : ZE X b s1 (.d (.int j)) s2) : ZE X (.Compare a [.Lt] [b] pos) s (.d (.bool (decide (i < j)))) s2 := ze_cmp op_lt ha hb (bi_int (show flat (.bl _) (.bool _) from rfl)) (nomark _)
theorem ze_le (ha : ZE X a s (.d (.int i)) s1) (hb : ZE X b s1 (.d (.int j)) s2) : ZE X (.Compare a [.LtE] [b] pos) s (.d (.bool (decide (i ≤ j)))) s2 := ze_cmp op_le ha hb (bi_int (show flat (.bl _) (.bool _) from rfl)) (nomark _)
theorem ze_gt (ha : ZE X a s (.d (.int i)) s1) (hb : ZE X b s1 (.d (.int j)) s2) : ZE X (.Compare a [.Gt] [b] pos) s (.d (.bool (decide (j < i)))) s2 := ze_cmp op_gt ha hb (bi_int (show flat (.bl _) (.bool _) from rfl)) (nomark _)
theorem ze_ge (ha : ZE X a s (.d (.int i)) s1) (hb : ZE X b s1 (.d (.int j)) s2) : ZE X (.Compare a [.GtE] [b] pos) s (.d (.bool (decide (j ≤ i)))) s2 := ze_cmp op_ge ha hb (bi_int (show flat (.bl _) (.bool _) from rfl)) (nomark _)
theorem zt_lt (ha : ZE X a s (.d (.int i)) s1) (hb : ZE X b s1 (.d (.int j)) s2) : ZT X (.Compare a [.Lt] [b] pos) s (Is (decide (i < j)) s2) := zt_cmp op_lt ha hb (bi_int (show flat (.bl _) (.bool _) from rfl)) (nomark _)
theorem zt_le (ha : ZE X a s (.d (.int i)) s1) (hb : ZE X b s1 (.d (.int j)) s2) : ZT X (.Compare a [.LtE] [b] pos) s (Is (decide (i ≤ j)) s2) := zt_cmp op_le ha hb (bi_int (show flat (.bl _) (.bool _) from rfl)) (nomark _)
theorem zt_gt (ha : ZE X a s (.d (.int i)) s1) (hb : ZE X b s1 (.d (.int j)) s2) : ZT X (.Compare a [.Gt] [b] pos) s (Is (decide (j < i)) s2) := zt_cmp op_gt ha hb (bi_int (show flat (.bl _) (.bool _) from rfl)) (nomark _)
theorem zt_ge (ha : ZE X a s (.d (.int i)) s1) (hb : ZE X b s1 (.d (.int j)) s2) : ZT X (.Compare a [.GtE] [b] pos) s (Is (decide (j ≤ i)) s2) := zt_cmp op_ge ha hb (bi_int (show flat (.bl _) (.bool _) from rfl)) (nomark _)
/-- == and != of data of any depth -/
theorem bi_eq {K : PySem.W.Frag} {x y : PyData} {ra rb : SD} (wa : Vw s ra x) (wb : Vw s rb y) (hx : SeqAt.shaped x = true) (hy : SeqAt.shaped y = true) : Bi K (rEqD K) s ra rb (.d (.bool (PyData.eqv x y))) s := fun u w T σ ρ H Q g va vb k =>
  ⟨x, y, g.see (List.mem_cons_of_mem _ List.mem_cons_self) va wa, g.see List.mem_cons_self vb wb, hx, hy, k _ ρ H (pre_refl ρ) trivial (g.tdrop.tdrop.tflat (show flat (.bl _) (.bool _) from rfl))⟩
theorem bi_ne {K : PySem.W.Frag} {x y : PyData} {ra rb : SD} (wa : Vw s ra x) (wb : Vw s rb y) (hx : SeqAt.shaped x = true) (hy : SeqAt.shaped y = true) : Bi K (rNeD K) s ra rb (.d (.bool (!PyData.eqv x y))) s := fun u w T σ ρ H Q g va vb k =>
  ⟨x, y, g.see (List.mem_cons_of_mem _ List.mem_cons_self) va wa, g.see List.mem_cons_self vb wb, hx, hy, k _ ρ H (pre_refl ρ) trivial (g.tdrop.tdrop.tflat (show flat (.bl _) (.bool _) from rfl))⟩
variable {x y : PyData} {ra rb : SD}
theorem ze_eq (hu : X.A.units + 64 < cLine) (wa : Vw s2 ra x) (wb : Vw s2 rb y) (hx : SeqAt.shaped x = true) (hy : SeqAt.shaped y = true) (ha : ZE X a s ra s1) (hb : ZE X b s1 rb s2) : ZE X (.Compare a [.Eq] [b] pos) s (.d (.bool (PyData.eqv x y))) s2 := ze_cmp (op_eqD hu) ha hb (bi_eq wa wb hx hy) (nomark _)
theorem ze_ne (hu : X.A.units + 64 < cLine) (wa : Vw s2 ra x) (wb : Vw s2 rb y) (hx : SeqAt.shaped x = true) (hy : SeqAt.shaped y = true) (ha : ZE X a s ra s1) (hb : ZE X b s1 rb s2) : ZE X (.Compare a [.NotEq] [b] pos) s (.d (.bool (!PyData.eqv x y))) s2 := ze_cmp (op_neD hu) ha hb (bi_ne wa wb hx hy) (nomark _)
theorem zt_eq (hu : X.A.units + 64 < cLine) (wa : Vw s2 ra x) (wb : Vw s2 rb y) (hx : SeqAt.shaped x = true) (hy : SeqAt.shaped y = true) (ha : ZE X a s ra s1) (hb : ZE X b s1 rb s2) : ZT X (.Compare a [.Eq] [b] pos) s (Is (PyData.eqv x y) s2) := zt_cmp (op_eqD hu) ha hb (bi_eq wa wb hx hy) (nomark _)
theorem zt_ne (hu : X.A.units + 64 < cLine) (wa : Vw s2 ra x) (wb : Vw s2 rb y) (hx : SeqAt.shaped x = true) (hy : SeqAt.shaped y = true) (ha : ZE X a s ra s1) (hb : ZE X b s1 rb s2) : ZT X (.Compare a [.NotEq] [b] pos) s (Is (!PyData.eqv x y) s2) := zt_cmp (op_neD hu) ha hb (bi_ne wa wb hx hy) (nomark _)
end
end Z

namespace Z
open PySem L2
section
variable {X : Cx} {e a b c : Expr} {es : List Expr} {s s' s1 s2 s3 : S} {r r1 r2 : SD} {rs : List SD} {pos : Pos} {R : Bool → S → Prop} {k : Bool}

/-! ### tests -/
theorem zt_val (h : ZE X e s (.d (.bool k)) s') (he : ∀ whole, isTrue e X.env whole = (do let v ← whole; standAt e.pos; holding [v] (truthy v)) := by intro _; rfl) : ZT X e s (Is k s') := by
  refine PT.imp (pt_val h he) fun σ H Q ⟨T, ρ, g, q⟩ => ⟨T, ρ, g, fun v ρ' H' p vr g' => ?_⟩
  have d := g'.see (r := .d (.bool k)) List.mem_cons_self trivial (.d _)
  cases d
  exact ⟨k, rfl, q k s' ρ' H' ⟨rfl, rfl⟩ p g'.tdrop⟩
/-- a value's truth -/
def tru : PyData → Bool
  | .none => false
  | .bool b => b
  | .int i => i != 0
  | .str y => (y.length : Int) != 0
  | .list xs => !xs.isEmpty
  | .tuple xs => !xs.isEmpty
  | .dict _ => false
def truOk : PyData → Prop
  | .str y => y.length ≤ sizeLine
  | .dict _ => False
  | _ => True
theorem empty_len {α β : Type} {l : List α} {m : List β} (h : l.length = m.length) : l.isEmpty = m.isEmpty := by
  cases l <;> cases m <;> simp at h ⊢
theorem zt_tru {x : PyData} (h : ZE X e s r s') (w : Vw s' r x) (ok : truOk x) (he : ∀ whole, isTrue e X.env whole = (do let v ← whole; standAt e.pos; holding [v] (truthy v)) := by intro _; rfl) : ZT X e s (Is (tru x) s') := by
  refine PT.imp (pt_truth h he) fun σ H Q ⟨T, ρ, g, q⟩ => ⟨T, ρ, g, fun v ρ' H' p vr g' => ⟨tru x, ?_, q _ s' ρ' H' ⟨rfl, rfl⟩ p g'.tdrop⟩⟩
  have d := g'.see List.mem_cons_self vr w
  cases d with
  | non => exact rfl
  | bl b => exact rfl
  | int i => exact rfl
  | str y => exact ⟨ok, rfl⟩
  | lst hs ha => exact .inl ⟨_, hs, by show (!_) = (!_); rw [empty_len (dpsLen ha)]⟩
  | tup hs ha => exact .inr (.inl ⟨_, hs, by show (!_) = (!_); rw [empty_len (dpsLen ha)]⟩)
theorem zt_not (h : ZT X a s R) : ZT X (.UnaryOp .Not a pos) s (fun b t => R (!b) t) := by
  refine PT.imp (pt_not h) fun σ H Q ⟨T, ρ, g, q⟩ => ⟨T, ρ, g, fun b t ρ' H' hr p g' => q (!b) t ρ' H' (show R (!(!b)) t by rw [Bool.not_not]; exact hr) p g'⟩
theorem zt_notI (h : ZT X a s (Is k s')) : ZT X (.UnaryOp .Not a pos) s (Is (!k) s') := (zt_not h).imp fun b t ⟨h1, h2⟩ => ⟨by rw [← h1, Bool.not_not], h2⟩
theorem zw_all {M : S → Prop} (h : ∀ t, M t → ZW X e t R) : PW X e (fun σ H Q => ∃ t T ρ, M t ∧ Sat X.K t σ ρ T H ∧ ∀ b s' ρ' H', R b s' → ρ <+: ρ' → Sat X.K s' σ ρ' T H' → Q b H') :=
  ⟨fun w pins sh σ H Q I ⟨t, T, ρ, m, g, q⟩ => (h t m).run w pins sh σ H Q I ⟨T, ρ, g, q⟩⟩
theorem zw_and1 (h : ZT X a s R) : ZW X (.BoolOp .And [a] pos) s R := pw_and1 h
theorem zw_or1 (h : ZT X a s R) : ZW X (.BoolOp .Or [a] pos) s R := pw_or1 h
theorem zw_and {Ra : Bool → S → Prop} (h1 : ZT X a s Ra) (h2 : ∀ t, Ra true t → ZW X (.BoolOp .And (b :: es) pos) t R) (h3 : ∀ t, Ra false t → R false t) : ZW X (.BoolOp .And (a :: b :: es) pos) s R := by
  refine PW.imp (pw_and h1 (zw_all h2)) fun σ H Q ⟨T, ρ, g, q⟩ => ⟨T, ρ, g, fun b t ρ' H' hr p g' => ?_⟩
  cases b with
  | true => exact ⟨t, T, ρ', hr, g', fun b' s' ρ2 H2 hr' p' g2 => q b' s' ρ2 H2 hr' (p.trans p') g2⟩
  | false => exact q false t ρ' H' (h3 t hr) p g'
theorem zw_or {Ra : Bool → S → Prop} (h1 : ZT X a s Ra) (h2 : ∀ t, Ra false t → ZW X (.BoolOp .Or (b :: es) pos) t R) (h3 : ∀ t, Ra true t → R true t) : ZW X (.BoolOp .Or (a :: b :: es) pos) s R := by
  refine PW.imp (pw_or h1 (zw_all h2)) fun σ H Q ⟨T, ρ, g, q⟩ => ⟨T, ρ, g, fun b t ρ' H' hr p g' => ?_⟩
  cases b with
  | false => exact ⟨t, T, ρ', hr, g', fun b' s' ρ2 H2 hr' p' g2 => q b' s' ρ2 H2 hr' (p.trans p') g2⟩
  | true => exact q true t ρ' H' (h3 t hr) p g'
/-- .. where the answers are known and the state stays -/
theorem zw_andI {k j : Bool} (h1 : ZT X a s (Is k s)) (h2 : k = true → ZW X (.BoolOp .And (b :: es) pos) s (Is j s)) : ZW X (.BoolOp .And (a :: b :: es) pos) s (Is (k && j) s) := by
  refine zw_and h1 (fun t ⟨e1, e2⟩ => ?_) fun t ⟨e1, e2⟩ => ⟨by rw [← e1]; rfl, e2⟩
  subst e2
  rw [← e1]
  exact h2 e1.symm
theorem zw_orI {k j : Bool} (h1 : ZT X a s (Is k s)) (h2 : k = false → ZW X (.BoolOp .Or (b :: es) pos) s (Is j s)) : ZW X (.BoolOp .Or (a :: b :: es) pos) s (Is (k || j) s) := by
  refine zw_or h1 (fun t ⟨e1, e2⟩ => ?_) fun t ⟨e1, e2⟩ => ⟨by rw [← e1]; rfl, e2⟩
  subst e2
  rw [← e1]
  exact h2 e1.symm
/-- as values -/
theorem ze_one {op : BoolOp} (h : ZE X a s r s') : ZE X (.BoolOp op [a] pos) s r s' := pe_one h
theorem pe_noway {X : Cx} {e : Expr} : PE X e (fun _ _ _ => False) := ⟨fun _ _ _ _ _ _ h => h.elim⟩
theorem ze_and {k j : Bool} (h1 : ZE X a s (.d (.bool k)) s) (h2 : k = true → ZE X (.BoolOp .And (b :: es) pos) s (.d (.bool j)) s) : ZE X (.BoolOp .And (a :: b :: es) pos) s (.d (.bool (k && j))) s := by
  cases k with
  | true =>
    refine PE.imp (pe_and h1 (h2 rfl)) fun σ H Q ⟨T, ρ, g, q⟩ => ⟨T, ρ, g, fun v ρ' H' p vr g' => ?_⟩
    have d := g'.see (r := .d (.bool true)) List.mem_cons_self trivial (.d _)
    cases d
    exact ⟨true, rfl, _, ρ', g'.tdrop, fun v ρ2 H2 p2 vr2 g2 => q v ρ2 H2 (p.trans p2) vr2 g2⟩
  | false =>
    refine PE.imp (pe_and h1 pe_noway) fun σ H Q ⟨T, ρ, g, q⟩ => ⟨T, ρ, g, fun v ρ' H' p vr g' => ?_⟩
    have d := g'.see (r := .d (.bool false)) List.mem_cons_self trivial (.d _)
    cases d
    exact ⟨false, rfl, q _ ρ' H' p trivial g'⟩
theorem ze_or {k j : Bool} (h1 : ZE X a s (.d (.bool k)) s) (h2 : k = false → ZE X (.BoolOp .Or (b :: es) pos) s (.d (.bool j)) s) : ZE X (.BoolOp .Or (a :: b :: es) pos) s (.d (.bool (k || j))) s := by
  cases k with
  | false =>
    refine PE.imp (pe_or h1 (h2 rfl)) fun σ H Q ⟨T, ρ, g, q⟩ => ⟨T, ρ, g, fun v ρ' H' p vr g' => ?_⟩
    have d := g'.see (r := .d (.bool false)) List.mem_cons_self trivial (.d _)
    cases d
    exact ⟨false, rfl, _, ρ', g'.tdrop, fun v ρ2 H2 p2 vr2 g2 => q v ρ2 H2 (p.trans p2) vr2 g2⟩
  | true =>
    refine PE.imp (pe_or h1 pe_noway) fun σ H Q ⟨T, ρ, g, q⟩ => ⟨T, ρ, g, fun v ρ' H' p vr g' => ?_⟩
    have d := g'.see (r := .d (.bool true)) List.mem_cons_self trivial (.d _)
    cases d
    exact ⟨true, rfl, q _ ρ' H' p trivial g'⟩
theorem ze_not (h1 : ZE X a s (.d (.bool k)) s') : ZE X (.UnaryOp .Not a pos) s (.d (.bool (!k))) s' := by
  refine PE.imp (pe_not h1) fun σ H Q ⟨T, ρ, g, q⟩ => ⟨T, ρ, g, fun v ρ' H' p vr g' => ?_⟩
  have d := g'.see (r := .d (.bool k)) List.mem_cons_self trivial (.d _)
  cases d
  exact ⟨k, rfl, q _ ρ' H' p trivial (g'.tdrop.tflat (show flat (.bl _) (.bool _) from rfl))⟩
/-- x if test else y -/
theorem ze_ite (hc : ZT X c s (Is k s1)) (h1 : k = true → ZE X a s1 r s') (h2 : k = false → ZE X b s1 r s') : ZE X (.IfExp c a b pos) s r s' := by
  cases k with
  | true =>
    refine PE.imp (pe_ifExp hc (h1 rfl) pe_noway) fun σ H Q ⟨T, ρ, g, q⟩ => ⟨T, ρ, g, fun b' t ρ' H' ⟨e1, e2⟩ p g' => ?_⟩
    subst e1 e2
    exact ⟨T, ρ', g', fun v ρ2 H2 p2 vr2 g2 => q v ρ2 H2 (p.trans p2) vr2 g2⟩
  | false =>
    refine PE.imp (pe_ifExp hc pe_noway (h2 rfl)) fun σ H Q ⟨T, ρ, g, q⟩ => ⟨T, ρ, g, fun b' t ρ' H' ⟨e1, e2⟩ p g' => ?_⟩
    subst e1 e2
    exact ⟨T, ρ', g', fun v ρ2 H2 p2 vr2 g2 => q v ρ2 H2 (p.trans p2) vr2 g2⟩
theorem ze_iteI {i j : Int} (hc : ZT X c s (Is k s1)) (h1 : k = true → ZE X a s1 (.d (.int i)) s') (h2 : k = false → ZE X b s1 (.d (.int j)) s') : ZE X (.IfExp c a b pos) s (.d (.int (if k then i else j))) s' :=
  ze_ite hc (fun h => by subst h; exact h1 rfl) fun h => by subst h; exact h2 rfl
theorem ze_iteD {x y : PyData} (hc : ZT X c s (Is k s1)) (h1 : k = true → ZE X a s1 (.d x) s') (h2 : k = false → ZE X b s1 (.d y) s') : ZE X (.IfExp c a b pos) s (.d (if k then x else y)) s' :=
  ze_ite hc (fun h => by subst h; exact h1 rfl) fun h => by subst h; exact h2 rfl

/-! ### calls of built-ins -/
/-- how a call of a global name with these arguments is read -/
def Cl (X : Cx) (x : Str) (e : Expr) (es : List Expr) (pos : Pos) : Prop := Gl X x ∧ starEach (e :: es) X.env = (false, eval e X.env) :: starEach es X.env ∧ (backTo pos (starEach es X.env)).any (·.1) = false
theorem ze_callB {q : List V → Hp → VK → Prop} {id : String} {x : Str} {p : Pos} {z : SD} (hc : CallR X (.builtin id) q) (hv : bootBuiltins x = some (.builtin id)) (ha : ZA X (e :: es) s rs s1) (hm : X.mg x = none) (c : Cl X x e es pos) (hq : Ca X.K q s1 rs z s2) (hn : x ≠ "__name__" := by decide)
    (hdb : (x == ("__debug__" : Str)) = false := by decide) : ZE X (.Call (.Name x p) (e :: es) [] pos) s z s2 :=
  PE.imp (pe_callB hc c.1 hm hv ha hn hdb c.2.1 c.2.2) fun σ H Q ⟨T, ρ, g, k⟩ => ⟨T, ρ, g, fun us ρ1 H1 p1 vr1 g1 => hq us T σ ρ1 H1 Q g1 vr1 fun v ρ3 H3 p3 vr3 g3 => k v ρ3 H3 (p1.trans p3) vr3 g3⟩
theorem ze_callT {q : List V → Hp → VK → Prop} {id : String} {x : Str} {p : Pos} {z : SD} (hc : CallR X (.type id) q) (hv : bootBuiltins x = some (.type id)) (ha : ZA X (e :: es) s rs s1) (hm : X.mg x = none) (c : Cl X x e es pos) (hq : Ca X.K q s1 rs z s2) (hn : x ≠ "__name__" := by decide)
    (hdb : (x == ("__debug__" : Str)) = false := by decide) : ZE X (.Call (.Name x p) (e :: es) [] pos) s z s2 :=
  PE.imp (pe_callTy hc c.1 hm hv ha hn hdb c.2.1 c.2.2) fun σ H Q ⟨T, ρ, g, k⟩ => ⟨T, ρ, g, fun us ρ1 H1 p1 vr1 g1 => hq us T σ ρ1 H1 Q g1 vr1 fun v ρ3 H3 p3 vr3 g3 => k v ρ3 H3 (p1.trans p3) vr3 g3⟩
theorem vrs1 {ρ : List V} {us : List V} (h : VRs [r] ρ us) : ∃ u, us = [u] ∧ VR r ρ u := by
  obtain ⟨h1, h2⟩ := h
  match us, h1 with
  | [u], _ => exact ⟨u, rfl, h2 0 r u rfl rfl⟩
theorem vrs2 {ρ : List V} {us : List V} (h : VRs [r, r1] ρ us) : ∃ u w, us = [u, w] ∧ VR r ρ u ∧ VR r1 ρ w := by
  obtain ⟨h1, h2⟩ := h
  match us, h1 with
  | [u, w], _ => exact ⟨u, w, rfl, h2 0 r u rfl rfl, h2 1 r1 w rfl rfl⟩
def Ca1 (K : PySem.W.Frag) (q : List V → Hp → VK → Prop) (s : S) (a z : SD) (s' : S) : Prop := ∀ u T σ ρ H Q, Sat K s σ ρ ((itOf a, some u) :: T) H → VR a ρ u →
  (∀ v ρ' H', ρ <+: ρ' → VR z ρ' v → Sat K s' σ ρ' ((itOf z, some v) :: T) H' → Q v H') → q [u] H Q
theorem ca1 {q : List V → Hp → VK → Prop} {K : PySem.W.Frag} {z : SD} (h : Ca1 K q s r z s') : Ca K q s [r] z s' := fun us T σ ρ H Q g vr k => by
  obtain ⟨u, e, h1⟩ := vrs1 vr
  subst e
  exact h u T σ ρ H Q g h1 k
def Ca2 (K : PySem.W.Frag) (q : List V → Hp → VK → Prop) (s : S) (a b z : SD) (s' : S) : Prop := ∀ u w T σ ρ H Q, Sat K s σ ρ ((itOf a, some u) :: (itOf b, some w) :: T) H → VR a ρ u → VR b ρ w →
  (∀ v ρ' H', ρ <+: ρ' → VR z ρ' v → Sat K s' σ ρ' ((itOf z, some v) :: T) H' → Q v H') → q [u, w] H Q
theorem ca2 {q : List V → Hp → VK → Prop} {K : PySem.W.Frag} {z : SD} (h : Ca2 K q s r r1 z s') : Ca K q s [r, r1] z s' := fun us T σ ρ H Q g vr k => by
  obtain ⟨u, w, e, h1, h2⟩ := vrs2 vr
  subst e
  exact h u w T σ ρ H Q g h1 h2 k
variable {f p : Pos} {n : Nat} {i j : Int} {x y z : PyData} {ds : List PyData}
theorem ze_absI (ha : ZA X [a] s [.d (.int i)] s1) (hm : X.mg "abs" = none) (c : Cl X "abs" a [] pos := by exact ⟨rfl, rfl, rfl⟩) : ZE X (.Call (.Name "abs" p) [a] [] pos) s (.d (.int (if i < 0 then -i else i))) s1 :=
  ze_callB call_abs (by decide +kernel) ha hm c (ca1 fun u T σ ρ H Q g vr k => by
    have e1 := see_int (i := i) (v := u) g List.mem_cons_self
    subst e1
    exact ⟨i, rfl, k _ ρ H (pre_refl ρ) trivial (g.tdrop.tflat (show flat (.int _) (.int _) from rfl))⟩)
theorem ze_intI (ha : ZA X [a] s [.d (.int i)] s1) (hm : X.mg "int" = none) (c : Cl X "int" a [] pos := by exact ⟨rfl, rfl, rfl⟩) : ZE X (.Call (.Name "int" p) [a] [] pos) s (.d (.int i)) s1 :=
  ze_callT call_int1 (by decide +kernel) ha hm c (ca1 fun u T σ ρ H Q g vr k => by
    have e1 := see_int (i := i) (v := u) g List.mem_cons_self
    subst e1
    exact .inl ⟨i, rfl, k _ ρ H (pre_refl ρ) trivial (g.tdrop.tflat (show flat (.int _) (.int _) from rfl))⟩)
theorem ze_max2 (ha : ZA X [a, b] s [.d (.int i), .d (.int j)] s1) (hm : X.mg "max" = none) (hk : X.calm = true := by rfl) (c : Cl X "max" a [b] pos := by exact ⟨rfl, rfl, rfl⟩) : ZE X (.Call (.Name "max" p) [a, b] [] pos) s (.d (.int (if j > i then j else i))) s1 :=
  ze_callB (call_max2 hk) (by decide +kernel) ha hm c (ca2 fun u w T σ ρ H Q g _ _ k => by
    have e1 := see_int (i := i) (v := u) g List.mem_cons_self
    have e2 := see_int (i := j) (v := w) g (List.mem_cons_of_mem _ List.mem_cons_self)
    subst e1 e2
    exact ⟨i, j, rfl, k _ ρ H (pre_refl ρ) trivial (g.tdrop.tdrop.tflat (show flat (.int _) (.int _) from rfl))⟩)
theorem ze_min2 (ha : ZA X [a, b] s [.d (.int i), .d (.int j)] s1) (hm : X.mg "min" = none) (hk : X.calm = true := by rfl) (c : Cl X "min" a [b] pos := by exact ⟨rfl, rfl, rfl⟩) : ZE X (.Call (.Name "min" p) [a, b] [] pos) s (.d (.int (if j < i then j else i))) s1 :=
  ze_callB (call_min2 hk) (by decide +kernel) ha hm c (ca2 fun u w T σ ρ H Q g _ _ k => by
    have e1 := see_int (i := i) (v := u) g List.mem_cons_self
    have e2 := see_int (i := j) (v := w) g (List.mem_cons_of_mem _ List.mem_cons_self)
    subst e1 e2
    exact ⟨i, j, rfl, k _ ρ H (pre_refl ρ) trivial (g.tdrop.tdrop.tflat (show flat (.int _) (.int _) from rfl))⟩)
theorem ze_lenL (w : Vw s1 r (.list ds)) (ha : ZA X [a] s [r] s1) (hm : X.mg "len" = none) (c : Cl X "len" a [] pos := by exact ⟨rfl, rfl, rfl⟩) : ZE X (.Call (.Name "len" p) [a] [] pos) s (.d (.int (ds.length : Nat))) s1 :=
  ze_callB call_len_seq (by decide +kernel) ha hm c (ca1 fun u T σ ρ H Q g vr k => by
    obtain ⟨F, p, vs, e1, hs, hd, _⟩ := g.seeL List.mem_cons_self vr w
    subst e1
    exact ⟨p, vs, rfl, .inl hs, k _ ρ H (pre_refl ρ) trivial (g.tdrop.tflat (show flat (.int _) (.int _) by rw [dpsLen hd]; exact rfl))⟩)
theorem ze_lenT (w : Vw s1 r (.tuple ds)) (ha : ZA X [a] s [r] s1) (hm : X.mg "len" = none) (c : Cl X "len" a [] pos := by exact ⟨rfl, rfl, rfl⟩) : ZE X (.Call (.Name "len" p) [a] [] pos) s (.d (.int (ds.length : Nat))) s1 :=
  ze_callB call_len_seq (by decide +kernel) ha hm c (ca1 fun u T σ ρ H Q g vr k => by
    obtain ⟨F, p, vs, e1, hs, hd, _⟩ := g.seeT List.mem_cons_self w
    subst e1
    exact ⟨p, vs, rfl, .inr hs, k _ ρ H (pre_refl ρ) trivial (g.tdrop.tflat (show flat (.int _) (.int _) by rw [dpsLen hd]; exact rfl))⟩)
/-- tuple of a list; a list's copy, kept for good or of its own -/
theorem ze_tupOfL (w : Vw s1 r (.list ds)) (ha : ZA X [a] s [r] s1) (hm : X.mg "tuple" = none) (c : Cl X "tuple" a [] pos := by exact ⟨rfl, rfl, rfl⟩) : ZE X (.Call (.Name "tuple" p) [a] [] pos) s (.d (.tuple ds)) s1 :=
  ze_callT call_tuple_of (by decide +kernel) ha hm c (ca1 fun u T σ ρ H Q g vr k => by
    obtain ⟨F, p, vs, e1, hs, hd, f⟩ := g.seeL List.mem_cons_self vr w
    subst e1
    exact ⟨p, vs, rfl, .inl ⟨hs, fun l hl => k _ ρ _ (pre_refl ρ) trivial (g.out1 (f.tup hd hl))⟩⟩)
theorem ze_tupOfT (w : Vw s1 r (.tuple ds)) (ha : ZA X [a] s [r] s1) (hm : X.mg "tuple" = none) (c : Cl X "tuple" a [] pos := by exact ⟨rfl, rfl, rfl⟩) : ZE X (.Call (.Name "tuple" p) [a] [] pos) s (.d (.tuple ds)) s1 :=
  ze_callT call_tuple_of (by decide +kernel) ha hm c (ca1 fun u T σ ρ H Q g vr k => by
    cases w
    obtain ⟨F, p, vs, e1, hs, hd, f⟩ := g.seeT (r := .d (.tuple ds)) List.mem_cons_self (.d _)
    subst e1
    exact ⟨p, vs, rfl, .inr ⟨hs, k _ ρ _ (pre_refl ρ) trivial g⟩⟩)
theorem Sat.push1 {K : PySem.W.Frag} {σ : L2.St} {ρ : List V} {T : List En} {H H' : Hp} {P : Own} {v : V} {xx : En} (g : Sat K s σ ρ (xx :: T) H) (h : OK K ((IT.o P, some v) :: (xx :: T ++ (ES s.e σ ++ RS s.R ρ))) H') : Sat K ⟨s.e, s.R ++ [P]⟩ σ (ρ ++ [v]) T H' :=
  Sat.push ((h.perm (List.Perm.swap xx _ _)).right (k := [xx])) g.le g.lr g.al
theorem Sat.newVR {K : PySem.W.Frag} {σ : L2.St} {ρ : List V} {T : List En} {H : Hp} {v : V} (g : Sat K s σ ρ T H) : VR (.r s.R.length) (ρ ++ [v]) v := by
  show (ρ ++ [v])[s.R.length]? = some v
  rw [g.lr, List.getElem?_append_right (Nat.le_refl _), Nat.sub_self]
  rfl
theorem ze_listOfL (w : Vw s1 r (.list ds)) (ha : ZA X [a] s [r] s1) (hm : X.mg "list" = none) (c : Cl X "list" a [] pos := by exact ⟨rfl, rfl, rfl⟩) : ZE X (.Call (.Name "list" p) [a] [] pos) s (.d (.list ds)) s1 :=
  ze_callT call_list_of (by decide +kernel) ha hm c (ca1 fun u T σ ρ H Q g vr k => by
    obtain ⟨F, p, vs, e1, hs, hd, f⟩ := g.seeL List.mem_cons_self vr w
    subst e1
    exact ⟨p, vs, rfl, .inl hs, fun l hl => k _ ρ _ (pre_refl ρ) trivial (g.out1 (f.lstD hd hl))⟩)
theorem ze_listOfT (w : Vw s1 r (.tuple ds)) (ha : ZA X [a] s [r] s1) (hm : X.mg "list" = none) (c : Cl X "list" a [] pos := by exact ⟨rfl, rfl, rfl⟩) : ZE X (.Call (.Name "list" p) [a] [] pos) s (.d (.list ds)) s1 :=
  ze_callT call_list_of (by decide +kernel) ha hm c (ca1 fun u T σ ρ H Q g vr k => by
    obtain ⟨F, p, vs, e1, hs, hd, f⟩ := g.seeT List.mem_cons_self w
    subst e1
    exact ⟨p, vs, rfl, .inr hs, fun l hl => k _ ρ _ (pre_refl ρ) trivial (g.out1 (f.lstD hd hl))⟩)
/-! ### items, slices, sums of tuples -/
theorem atI_map {α β : Type} {f : α → β} {xs : List α} {i : Int} : atI (xs.map f) i = (atI xs i).map f := by
  unfold atI
  rw [List.length_map]
  cases ixN xs.length i with
  | none => rfl
  | some j => simp
theorem dps_atI {K : PySem.W.Frag} {F : Hp} {vs : List V} {i : Int} (h : DpAll K F vs ds) (e : atI ds i = some x) : ∃ v, atI vs i = some v ∧ Dp K F v x := by
  unfold atI at e ⊢
  rw [dpsLen h]
  cases q : ixN ds.length i with
  | none => rw [q] at e; cases e
  | some j =>
    rw [q] at e
    exact dpsGet h e
theorem ze_ixL (w : Vw s2 r (.list ds)) (ix : atI ds i = some x) (ha : ZE X a s r s1) (hb : ZE X b s1 (.d (.int i)) s2) (hs : PlainIx b := by intro _ _; rfl) : ZE X (.Subscript a b pos) s (.d x) s2 :=
  PE.imp (pe_ix ix_list ha hb hs) (bi_run fun u w' T σ ρ H Q g va vb k => by
    have e1 := see_int (i := i) (v := w') g List.mem_cons_self
    subst e1
    obtain ⟨F, p, vs, e1, hs, hd, f⟩ := g.seeL (List.mem_cons_of_mem _ List.mem_cons_self) va w
    subst e1
    obtain ⟨v, h1, h2⟩ := dps_atI hd ix
    exact ⟨p, vs, i, v, rfl, rfl, hs, h1, k v ρ H (pre_refl ρ) trivial (g.out2 (f.add h2).ok)⟩)
theorem ze_ixT (w : Vw s2 r (.tuple ds)) (ix : atI ds i = some x) (ha : ZE X a s r s1) (hb : ZE X b s1 (.d (.int i)) s2) (hs : PlainIx b := by intro _ _; rfl) : ZE X (.Subscript a b pos) s (.d x) s2 :=
  PE.imp (pe_ix ix_tup ha hb hs) (bi_run fun u w' T σ ρ H Q g va vb k => by
    have e1 := see_int (i := i) (v := w') g List.mem_cons_self
    subst e1
    obtain ⟨F, p, vs, e1, hs, hd, f⟩ := g.seeT (List.mem_cons_of_mem _ List.mem_cons_self) w
    subst e1
    obtain ⟨v, h1, h2⟩ := dps_atI hd ix
    exact ⟨p, vs, i, v, rfl, rfl, hs, h1, k v ρ H (pre_refl ρ) trivial (g.out2 (f.add h2).ok)⟩)
theorem bi_cat {K : PySem.W.Frag} {ds es : List PyData} (hz : ds.length + es.length ≤ sizeLine) : Bi K (rCatA K) s (.d (.tuple ds)) (.d (.tuple es)) (.d (.tuple (ds ++ es))) s := fun u w T σ ρ H Q g va vb k => by
  obtain ⟨F, f⟩ := g.ok.fz
  obtain ⟨u', e1, h1⟩ := f.at (x := .tuple ds) (v := some u) (List.mem_append_left _ (List.mem_cons_of_mem _ List.mem_cons_self))
  obtain ⟨w', e2, h2⟩ := f.at (x := .tuple es) (v := some w) (List.mem_append_left _ List.mem_cons_self)
  cases e1
  cases e2
  cases h1 with
  | tup hs ha =>
    cases h2 with
    | tup ht hb =>
      refine ⟨_, _, _, _, rfl, rfl, f.ext.t hs, f.ext.t ht, by rw [dpsLen ha, dpsLen hb]; exact hz, fun e => ?_, fun _ e => ?_, fun _ _ p hp => ?_⟩
      · subst e
        cases ha
        exact k _ ρ H (pre_refl ρ) trivial (g.out2 (f.add (x := .tuple ([] ++ es)) (.tup ht hb)).ok)
      · subst e
        cases hb
        exact k _ ρ H (pre_refl ρ) trivial (g.out2 (f.add (x := .tuple (ds ++ [])) (by rw [List.append_nil]; exact .tup hs ha)).ok)
      · exact k _ ρ _ (pre_refl ρ) trivial (g.out2 (f.tup (dpsApp ha hb) hp))
theorem ze_cat {ds es : List PyData} (hz : ds.length + es.length ≤ sizeLine) (ha : ZE X a s (.d (.tuple ds)) s1) (hb : ZE X b s1 (.d (.tuple es)) s2) : ZE X (.BinOp a .Add b pos) s (.d (.tuple (ds ++ es))) s2 := ze_op op_catA ha hb (bi_cat hz)
/-- a slice's part -/
def tP (K : PySem.W.Frag) (s : S) (o : Option Int) (s' : S) : TO := fun σ H Q => ∃ T ρ, Sat K s σ ρ T H ∧ ∀ ρ' H', ρ <+: ρ' → Sat K s' σ ρ' T H' → Q o H'
def ZP (X : Cx) (e : Option Expr) (s : S) (o : Option Int) (s' : S) : Prop := PO X e (tP X.K s o s')
theorem PO.imp {X : Cx} {e : Option Expr} {t t' : TO} (h : PO X e t) (i : ∀ σ H Q, t' σ H Q → t σ H Q) : PO X e t' := ⟨fun pins s σ H Q I q => h.run pins s σ H Q I (i σ H Q q)⟩
theorem zp_none : ZP X none s none s := PO.imp po_none fun σ H Q ⟨T, ρ, g, q⟩ => q ρ H (pre_refl ρ) g
theorem zp_some (h : ZE X e s (.d (.int i)) s1) : ZP X (some e) s (some i) s1 := PO.imp (po_some h) fun σ H Q ⟨T, ρ, g, q⟩ => ⟨T, ρ, g, fun v ρ' H' p vr g' => by
  have e1 := see_int (i := i) (v := v) g' List.mem_cons_self
  subst e1
  exact ⟨i, rfl, q ρ' H' p g'.tdrop⟩⟩
def cut (xs : List PyData) (lo hi : Option Int) : List PyData := (xs.drop (HT.sIx xs.length 0 lo)).take (HT.sIx xs.length xs.length hi - HT.sIx xs.length 0 lo)
theorem dps_cut {K : PySem.W.Frag} {F : Hp} {vs : List V} {lo hi : Option Int} (h : DpAll K F vs ds) : DpAll K F (cutV vs lo hi) (cut ds lo hi) := by
  unfold cutV cut
  rw [dpsLen h]
  exact dpsTake _ (dpsDrop _ h)
variable {lo hi : Option Expr} {l u : Option Int} {p2 : Pos}
theorem ze_slL (w : Vw s3 r (.list ds)) (ha : ZE X a s r s1) (hl : ZP X lo s1 l s2) (hu : ZP X hi s2 u s3) : ZE X (.Subscript a (.Slice lo hi none p2) pos) s (.d (.list (cut ds l u))) s3 :=
  PE.imp (pe_slice sl_list ha hl hu) fun σ H Q ⟨T, ρ, g, k⟩ => ⟨T, ρ, g, fun v ρ1 H1 p1 vr1 g1 => ⟨_, ρ1, g1, fun ρ2 H2 p2 g2 => ⟨_, ρ2, g2, fun ρ3 H3 p3 g3 => by
    obtain ⟨F, p, vs, e1, hs, hd, f⟩ := g3.seeL List.mem_cons_self ((vr1.mono p2).mono p3) w
    subst e1
    exact ⟨p, vs, rfl, hs, fun q hq => k _ ρ3 _ ((p1.trans p2).trans p3) trivial (g3.out1 (f.lstD (dps_cut hd) hq))⟩⟩⟩⟩
theorem ze_slT (w : Vw s3 r (.tuple ds)) (ha : ZE X a s r s1) (hl : ZP X lo s1 l s2) (hu : ZP X hi s2 u s3) : ZE X (.Subscript a (.Slice lo hi none p2) pos) s (.d (.tuple (cut ds l u))) s3 :=
  PE.imp (pe_slice sl_tupA ha hl hu) fun σ H Q ⟨T, ρ, g, k⟩ => ⟨T, ρ, g, fun v ρ1 H1 p1 vr1 g1 => ⟨_, ρ1, g1, fun ρ2 H2 p2 g2 => ⟨_, ρ2, g2, fun ρ3 H3 p3 g3 => by
    obtain ⟨F, p, vs, e1, hs, hd, f⟩ := g3.seeT List.mem_cons_self w
    subst e1
    refine ⟨p, vs, rfl, hs, fun ⟨z1, z2⟩ => ?_, fun _ q hq => k _ ρ3 _ ((p1.trans p2).trans p3) trivial (g3.out1 (f.tup (dps_cut hd) hq))⟩
    have e : cut ds l u = ds := by
      unfold cut
      rw [dpsLen hd] at z1 z2
      rw [z1, z2]
      simp
    cases w
    exact k _ ρ3 _ ((p1.trans p2).trans p3) trivial (by rw [e]; exact g3)⟩⟩⟩
end
end Z

namespace Z
open PySem L2

/-! ### less is known -/
def wkE : List SD → List SD → Prop
  | [], [] => True
  | a :: l, b :: m => (b = a ∨ b = .un) ∧ wkE l m
  | _, _ => False
/-- no reference at n or beyond -/
def low (n : Nat) : List SD → Prop
  | [] => True
  | .r j :: l => j < n ∧ low n l
  | _ :: l => low n l
theorem wkE_len : ∀ {l m : List SD}, wkE l m → m.length = l.length
  | [], [], _ => rfl
  | a :: l, b :: m, h => by simp [wkE_len h.2]
  | [], _ :: _, h => h.elim
  | _ :: _, [], h => h.elim
theorem wkE_get : ∀ {l m : List SD}, wkE l m → ∀ {i : Nat} {b : SD}, m[i]? = some b → ∃ a, l[i]? = some a ∧ (b = a ∨ b = .un)
  | [], [], _, i, b, e => by simp at e
  | a :: l, b :: m, h, 0, c, e => by simp at e; subst e; exact ⟨a, rfl, h.1⟩
  | a :: l, b :: m, h, i + 1, c, e => by
    rw [List.getElem?_cons_succ] at e
    obtain ⟨x, h1, h2⟩ := wkE_get h.2 e
    exact ⟨x, by rw [List.getElem?_cons_succ]; exact h1, h2⟩
  | [], _ :: _, h, _, _, _ => h.elim
  | _ :: _, [], h, _, _, _ => h.elim
theorem wkE_refl : ∀ l : List SD, wkE l l
  | [] => trivial
  | a :: l => ⟨.inl rfl, wkE_refl l⟩
theorem low_get {n : Nat} : ∀ {l : List SD}, low n l → ∀ {i j : Nat}, l[i]? = some (SD.r j) → j < n
  | [], _, i, j, e => by simp at e
  | .r k :: l, h, 0, j, e => by simp at e; subst e; exact h.1
  | .un :: l, h, 0, j, e => by simp at e
  | .d x :: l, h, 0, j, e => by simp at e
  | .r k :: l, h, i + 1, j, e => low_get (l := l) h.2 (by simpa using e)
  | .un :: l, h, i + 1, j, e => low_get (l := l) h (by simpa using e)
  | .d x :: l, h, i + 1, j, e => low_get (l := l) h (by simpa using e)
section
variable {K : PySem.W.Frag} {s : S} {σ : L2.St} {ρ : List V} {T : List En} {H : Hp}
theorem Held.forget {F : Hp} {x : En} {fp : List Addr} {L : List EF} {v : Option V} (h : Held K F H ((x, fp) :: L)) : Held K F H (((IT.un, v), []) :: L) := h.tail.unCons
theorem ok_es : ∀ {e e' : List SD} {σ : L2.St} {l : List En}, wkE e e' → OK K (ES e σ ++ l) H → OK K (ES e' σ ++ l) H
  | [], [], _, _, _, h => h
  | a :: e, b :: e', [], l, _, h => h
  | a :: e, b :: e', v :: σ, l, w, h => by
    have h1 : OK K (ES e σ ++ ((itOf a, v) :: l)) H := h.perm List.perm_middle.symm
    have h2 : OK K (ES e' σ ++ ((itOf a, v) :: l)) H := ok_es w.2 h1
    have h3 : OK K ((itOf b, v) :: (ES e' σ ++ l)) H := by
      have h4 : OK K ((itOf a, v) :: (ES e' σ ++ l)) H := h2.perm List.perm_middle
      rcases w.1 with z | z
      · rw [z]; exact h4
      · rw [z]; exact h4.tail.un
    exact h3
  | [], _ :: _, _, _, w, _ => w.elim
  | _ :: _, [], _, _, w, _ => w.elim
theorem Sat.trim {e' : List SD} {n : Nat} (g : Sat K s σ ρ T H) (w : wkE s.e e') (lw : low n e') : Sat K ⟨e', s.R.take n⟩ σ (ρ.take n) T H := by
  refine ⟨(wkE_len w).trans g.le, by simp [g.lr], fun i j e => ?_, ?_⟩
  · obtain ⟨a, h1, h2⟩ := wkE_get w e
    rcases h2 with z | z
    · subst z
      obtain ⟨v, e1, e2⟩ := g.al i j h1
      exact ⟨v, e1, by rw [List.getElem?_take_of_lt (low_get lw e)]; exact e2⟩
    · cases z
  · have h1 : OK K (ES e' σ ++ (RS s.R ρ ++ T)) H := by
      refine ok_es w (g.ok.perm ?_)
      exact (List.perm_append_comm).trans (by rw [List.append_assoc])
    have q : RS s.R ρ = RS (s.R.take n) (ρ.take n) ++ RS (s.R.drop n) (ρ.drop n) := by
      unfold RS
      rw [← List.zipWith_append (by simp [g.lr]), List.take_append_drop, List.take_append_drop]
    rw [q] at h1
    have h2 : OK K (RS (s.R.drop n) (ρ.drop n) ++ (T ++ (ES e' σ ++ RS (s.R.take n) (ρ.take n)))) H := by
      refine h1.perm ?_
      have p1 : (ES e' σ ++ (RS (s.R.take n) (ρ.take n) ++ RS (s.R.drop n) (ρ.drop n) ++ T)).Perm ((ES e' σ ++ RS (s.R.take n) (ρ.take n)) ++ (RS (s.R.drop n) (ρ.drop n) ++ T)) := by
        rw [List.append_assoc, List.append_assoc]
      refine p1.trans ?_
      refine (List.perm_append_comm).trans ?_
      rw [List.append_assoc]
    exact OK.right h2
end
theorem ZE.trim {X : Cx} {e : Expr} {s s1 : S} {x : PyData} {e' : List SD} {n : Nat} (h : ZE X e s (.d x) s1) (w : wkE s1.e e') (lw : low n e') (hn : s.R.length ≤ n) : ZE X e s (.d x) ⟨e', s1.R.take n⟩ :=
  PE.imp h fun σ H Q ⟨T, ρ, g, k⟩ => ⟨T, ρ, g, fun v ρ' H' p vr g' => k v (ρ'.take n) H' (by
    obtain ⟨m, rfl⟩ := p
    rw [List.take_append, List.take_of_length_le (by rw [← g.lr]; exact hn)]
    exact List.prefix_append _ _) trivial (g'.trim w lw)⟩
/-- the state as it was, less what came -/
theorem low_of {K : PySem.W.Frag} {s : S} {σ : L2.St} {ρ : List V} {T : List En} {H : Hp} (g : Sat K s σ ρ T H) : low s.R.length s.e := by
  have h : ∀ l : List SD, (∀ (i j : Nat), l[i]? = some (SD.r j) → j < s.R.length) → low s.R.length l := by
    intro l
    induction l with
    | nil => intro _; trivial
    | cons a l ih =>
      intro h
      have t := ih fun i j e => h (i + 1) j (by simpa using e)
      cases a with
      | r k => exact ⟨h 0 k rfl, t⟩
      | un => exact t
      | d x => exact t
  refine h s.e fun i j e => ?_
  obtain ⟨v, _, e2⟩ := g.al i j e
  rw [g.lr]
  exact (List.getElem?_eq_some_iff.mp e2).1
theorem ZE.clean {X : Cx} {e : Expr} {s : S} {x : PyData} {R' : List Own} (h : ZE X e s (.d x) ⟨s.e, s.R ++ R'⟩) : ZE X e s (.d x) s :=
  PE.imp h fun σ H Q ⟨T, ρ, g, k⟩ => ⟨T, ρ, g, fun v ρ' H' p vr g' => k v (ρ'.take s.R.length) H' (by
    obtain ⟨m, rfl⟩ := p
    rw [List.take_append, List.take_of_length_le (by rw [← g.lr]; exact Nat.le_refl _)]
    exact List.prefix_append _ _) trivial (by
      have t := g'.trim (e' := s.e) (n := s.R.length) (wkE_refl _) (low_of g)
      have q : (s.R ++ R').take s.R.length = s.R := by simp
      rw [show (⟨s.e, (⟨s.e, s.R ++ R'⟩ : S).R.take s.R.length⟩ : S) = s by rw [show (⟨s.e, s.R ++ R'⟩ : S).R = s.R ++ R' from rfl, q]] at t
      exact t)⟩
def gone : Own where
  holds := fun _ _ _ _ fp => fp = []
  stay := fun h _ _ => h
/-- a list that has just come, kept for good -/
theorem ZE.frz {X : Cx} {e : Expr} {s s1 : S} {j : Nat} {ds : List PyData} (h : ZE X e s (.r j) s1) (hj : s1.R[j]? = some (OL ds)) : ZE X e s (.d (.list ds)) ⟨s1.e, s1.R.set j gone⟩ :=
  PE.imp h fun σ H Q ⟨T, ρ, g, k⟩ => ⟨T, ρ, g, fun v ρ' H' p vr g' => k v ρ' H' p trivial (by
    obtain ⟨w, e2, ok, back⟩ := g'.obj hj
    have ev : w = v := Option.some.inj (e2.symm.trans vr)
    subst ev
    obtain ⟨F, f⟩ := ok.fz
    have f2 : OK X.K ((IT.d (.list ds), some w) :: (T ++ (ES s1.e σ ++ (RS s1.R ρ').set j (IT.un, some w)))) H' := (OK.perm (List.Perm.swap _ _ _) f.freeze).tail
    have f3 : OK X.K ((IT.o gone, some w) :: (((IT.d (.list ds), some w) :: T) ++ (ES s1.e σ ++ (RS s1.R ρ').set j (IT.un, some w)))) H' := by
      obtain ⟨F2, L, e1, gg⟩ := f2
      have c := gg.oCons (v := w) (P := gone) (fp := []) rfl List.nodup_nil (fun a ha => by cases ha) (fun a ha => by cases ha)
      exact ⟨F2, (((IT.o gone, some w), []) :: L), by rw [List.map_cons, e1]; rfl, c⟩
    exact back2 g' hj e2 f3)⟩
where
  back2 {K : PySem.W.Frag} {s : S} {σ : L2.St} {ρ : List V} {T T2 : List En} {H H' : Hp} {j : Nat} {P Q : Own} {w : V} (g : Sat K s σ ρ T H) (hj : s.R[j]? = some P) (e2 : ρ[j]? = some w)
      (ok : OK K ((IT.o Q, some w) :: (T2 ++ (ES s.e σ ++ (RS s.R ρ).set j (IT.un, some w)))) H') : Sat K ⟨s.e, s.R.set j Q⟩ σ ρ T2 H' := by
    have hz : j < (RS s.R ρ).length := (List.getElem?_eq_some_iff.mp (rs_get hj e2)).1
    refine ⟨g.le, by simpa using g.lr, g.al, ?_⟩
    have k := ok.set (T2.length + ((ES s.e σ).length + j))
    rw [List.set_append_right _ _ (Nat.le_add_right _ _), Nat.add_sub_cancel_left, List.set_append_right _ _ (Nat.le_add_right _ _), Nat.add_sub_cancel_left, List.set_set, ← rs_set g.lr e2] at k
    exact k

/-! ### statements -/
section
variable {X : Cx} {e a b c : Expr} {es : List Expr} {st : Stmt} {rest body orelse : List Stmt} {s s' s1 s2 s3 : S} {r r1 r2 : SD} {rs : List SD} {pos : Pos} {R : Bool → S → Prop} {k : Bool} {P : Po} {M : S → Prop}
theorem Meets.mono {K : PySem.W.Frag} {ρ ρ' : List V} {T : List En} {D : Ends} (h : Meets K P ρ T D) (p : ρ <+: ρ') : Meets K P ρ' T D :=
  ⟨fun s' σ' r' H' a q g => h.nx s' σ' r' H' a (p.trans q) g, fun x s' σ' r' H' v a q vr g => h.rt x s' σ' r' H' v a (p.trans q) vr g, fun s' σ' r' H' a q g => h.bk s' σ' r' H' a (p.trans q) g, fun s' σ' r' H' a q g => h.ct s' σ' r' H' a (p.trans q) g⟩
theorem take_pre {ρ ρ' : List V} {n : Nat} (p : ρ <+: ρ') (h : n ≤ ρ.length) : ρ'.take n = ρ.take n := by
  obtain ⟨m, rfl⟩ := p
  exact List.take_append_of_le_length h
theorem take_pre' {ρ ρ' : List V} {n : Nat} (p : ρ.take n <+: ρ') (h : n ≤ ρ.length) : ρ'.take n = ρ.take n ∧ n ≤ ρ'.length := by
  obtain ⟨m, rfl⟩ := p
  have l : (ρ.take n).length = n := by rw [List.length_take]; omega
  refine ⟨?_, by rw [List.length_append, l]; omega⟩
  rw [List.take_append_of_le_length (by omega), List.take_of_length_le (by omega)]
/-- a block in two: what is between -/
theorem zss_seq (h1 : PS X st (tS X.K (fun t => t = s) { P with nx := M })) (h2 : ∀ t, M t → ZSs X rest t P) : ZSs X (st :: rest) s P := by
  refine PSs.imp (pss_cons h1 (zss_all h2)) fun D σ H ⟨t, T, ρ, e1, hb, g, q⟩ => ?_
  refine ⟨t, T, ρ, e1, hb, g, ⟨fun s' σ' ρ' H' m p g' => ?_, q.rt, q.bk, q.ct⟩⟩
  obtain ⟨z1, z2⟩ := take_pre' p hb
  exact ⟨s', T, ρ', m, z2, g', by rw [z1]; exact q⟩
theorem zss_nil (h : P.nx s) : ZSs X [] s P := PSs.imp pss_nil fun D σ H ⟨t, T, ρ, e1, hb, g, q⟩ => by
  subst e1
  exact q.nx t σ ρ H h (List.take_prefix _ _) g
/-- .. forgetting -/
theorem zss_end {e' : List SD} (n : Nat) (w : wkE s.e e') (lw : low n e') (hn : P.b ≤ n) (h : P.nx ⟨e', s.R.take n⟩) : ZSs X [] s P := PSs.imp pss_nil fun D σ H ⟨t, T, ρ, e1, hb, g, q⟩ => by
  subst e1
  refine q.nx _ σ (ρ.take n) H h ?_ (g.trim w lw)
  rw [show ρ.take P.b = (ρ.take n).take P.b by rw [List.take_take, Nat.min_eq_left hn]]
  exact List.take_prefix _ _
/-- forgetting on the way -/
theorem zss_forget {e' : List SD} (n : Nat) (w : wkE s.e e') (lw : low n e') (hn : P.b ≤ n) (h : ZSs X rest ⟨e', s.R.take n⟩ P) : ZSs X rest s P := PSs.imp h fun D σ H ⟨t, T, ρ, e1, hb, g, q⟩ => by
  subst e1
  refine ⟨_, T, ρ.take n, rfl, by rw [List.length_take]; omega, g.trim w lw, ?_⟩
  rw [List.take_take, Nat.min_eq_left hn]
  exact q
/-- a statement that is a test of an expression's value dropped, .. -/
theorem zss_expr (h : ZE X e s r s1) (k : ZSs X rest s1 P) (hs : swapsWith e none pos.line X.env = pure false := by rfl) : ZSs X (.Expr e pos :: rest) s P :=
  zss_seq (M := fun t => t = s1) (PS.imp (ps_expr h hs) fun D σ H ⟨t, T, ρ, e1, hb, g, q⟩ => by
    subst e1
    exact ⟨T, ρ, g, fun v ρ' H' p vr g' => q.nx s1 σ ρ' H' rfl ((List.take_prefix _ _).trans p) g'.tdrop⟩) fun t e => by subst e; exact k
theorem zss_set {x : Str} {p' : Pos} (i : Nat) (h : ZE X e s r s1) (hi : i < s1.e.length) (k : ZSs X rest ⟨s1.e.set i r, s1.R⟩ P) (hN : X.N.Nodup) (hx : X.N[i]? = some x := by rfl) (hl : Loc X.env.scope x := by first | exact .inl rfl | exact .inr rfl) (hs : swapsWith e (some (.Name x p')) pos.line X.env = pure false := by rfl)
    (hf : X.fn x = true ∨ X.env.scope.names.lookup x = some .local := by first | exact .inl rfl | exact .inr rfl) : ZSs X (.Assign [.Name x p'] e pos :: rest) s P :=
  zss_seq (M := fun t => t = ⟨s1.e.set i r, s1.R⟩) (PS.imp (ps_set hN hx hl h hs hf) fun D σ H ⟨t, T, ρ, e1, hb, g, q⟩ => by
    subst e1
    exact ⟨T, ρ, g, fun v ρ' H' p vr g' => q.nx _ (σ.set i (some v)) ρ' H' rfl ((List.take_prefix _ _).trans p) (g'.put hi vr)⟩) fun t e => by subst e; exact k
theorem zss_never {sts : List Stmt} : PSs X sts (tS X.K (fun _ => False) P) := ⟨fun _ _ _ _ _ _ ⟨_, _, _, h, _⟩ => h.elim⟩
theorem zss_ret (h : ZE X e s r s1) (k : P.rt r s1) : ZSs X (.Return (some e) pos :: rest) s P :=
  zss_seq (M := fun _ => False) (PS.imp (ps_ret h) fun D σ H ⟨t, T, ρ, e1, hb, g, q⟩ => by
    subst e1
    exact ⟨T, ρ, g, fun v ρ' H' p vr g' => q.rt r s1 σ ρ' H' v k ((List.take_prefix _ _).trans p) vr g'⟩) fun t e => e.elim
theorem zss_pass (k : ZSs X rest s P) : ZSs X (.Pass pos :: rest) s P :=
  zss_seq (M := fun t => t = s) (PS.imp ps_pass fun D σ H ⟨t, T, ρ, e1, hb, g, q⟩ => by
    subst e1
    exact q.nx _ σ ρ H rfl (List.take_prefix _ _) g) fun t e => by subst e; exact k
theorem zss_continue (k : P.ct s) : ZSs X (.Continue pos :: rest) s P :=
  zss_seq (M := fun _ => False) (PS.imp ps_continue fun D σ H ⟨t, T, ρ, e1, hb, g, q⟩ => by
    subst e1
    exact q.ct _ σ ρ H k (List.take_prefix _ _) g) fun t e => e.elim
theorem zss_break (k : P.bk s) : ZSs X (.Break pos :: rest) s P :=
  zss_seq (M := fun _ => False) (PS.imp ps_break fun D σ H ⟨t, T, ρ, e1, hb, g, q⟩ => by
    subst e1
    exact q.bk _ σ ρ H k (List.take_prefix _ _) g) fun t e => e.elim
/-- if: M is what stands behind it -/
theorem zss_if (hc : ZT X c s R) (h1 : ∀ t, R true t → ZSs X body t { P with nx := M }) (h2 : ∀ t, R false t → ZSs X orelse t { P with nx := M }) (k : ∀ t, M t → ZSs X rest t P) : ZSs X (.If c body orelse pos :: rest) s P :=
  zss_seq (M := M) (PS.imp (ps_if hc (zss_all h1) (zss_all h2)) fun D σ H ⟨t, T, ρ, e1, hb, g, q⟩ => by
    subst e1
    refine ⟨T, ρ, g, fun b t' ρ' H' hr p g' => ?_⟩
    have z := take_pre p hb
    have z2 : P.b ≤ ρ'.length := Nat.le_trans hb p.length_le
    cases b with
    | true => exact ⟨t', T, ρ', hr, z2, g', by show Meets _ _ (ρ'.take P.b) _ _; rw [z]; exact q⟩
    | false => exact ⟨t', T, ρ', hr, z2, g', by show Meets _ _ (ρ'.take P.b) _ _; rw [z]; exact q⟩) k
/-- .. where the body leaves -/
theorem zss_ifRet (hc : ZT X c s (Is k s1)) (h1 : k = true → ZSs X body s1 { P with nx := fun _ => False }) (h2 : k = false → ZSs X rest s1 P) : ZSs X (.If c body [] pos :: rest) s P := by
  refine zss_if (M := fun t => k = false ∧ t = s1) hc (fun t ⟨e1, e2⟩ => ?_) (fun t ⟨e1, e2⟩ => ?_) fun t ⟨e1, e2⟩ => ?_
  · subst e2
    refine PSs.imp (h1 e1.symm) fun D σ H ⟨t', T, ρ, e1, hb, g, q⟩ => ⟨t', T, ρ, e1, hb, g, ⟨fun s' σ' ρ' H' z => z.elim, q.rt, q.bk, q.ct⟩⟩
  · subst e2
    exact zss_nil ⟨e1.symm, rfl⟩
  · subst e2
    exact h2 e1
/-- .. both ways known -/
theorem zss_ifI (hc : ZT X c s (Is k s1)) (h1 : k = true → ZSs X body s1 { P with nx := M }) (h2 : k = false → ZSs X orelse s1 { P with nx := M }) (h3 : ∀ t, M t → ZSs X rest t P) : ZSs X (.If c body orelse pos :: rest) s P :=
  zss_if (M := M) hc (fun t ⟨e1, e2⟩ => by subst e2; exact h1 e1.symm) (fun t ⟨e1, e2⟩ => by subst e2; exact h2 e1.symm) h3
/-- a list of its own grows: xs.append(e) -/
theorem Sat.putL {K : PySem.W.Frag} {σ : L2.St} {ρ : List V} {T : List En} {H : Hp} {j : Nat} {ds : List PyData} (g : Sat K s σ ρ T H) (hj : s.R[j]? = some (OL ds)) :
    ∃ p vs F, ρ[j]? = some (.ref p) ∧ H p = some (.lst vs) ∧ DpAll K F vs ds ∧ (∀ {x v}, (IT.d x, some v) ∈ T → Dp K F v x) ∧ ∀ ds' vs', DpAll K F vs' ds' → Sat K ⟨s.e, s.R.set j (OL ds')⟩ σ ρ T (upd H p (.lst vs')) := by
  obtain ⟨v, e2, ok, back⟩ := g.obj hj
  obtain ⟨F, f⟩ := ok.fz
  obtain ⟨p, vs, e3, h1, h2, h3⟩ := f.putL (ds' := ds)
  subst e3
  refine ⟨p, vs, F, e2, h1, h2, fun {x v} m => ?_, fun ds' vs' q => back _ _ (h3 ds' vs' q)⟩
  obtain ⟨u, z, d⟩ := f.at (x := x) (v := some v) (List.mem_cons_of_mem _ (List.mem_append_left _ m))
  cases z
  exact d
theorem vrs_one {K : PySem.W.Frag} {σ : L2.St} {ρ : List V} {T : List En} {H : Hp} {vs : List V} {x : PyData} (vr : VRs [.d x] ρ vs) (g : Sat K s σ ρ (its [.d x] vs ++ T) H) : ∃ v, vs = [v] ∧ Sat K s σ ρ ((IT.d x, some v) :: T) H := by
  obtain ⟨v, e, _⟩ := vrs1 vr
  subst e
  exact ⟨v, rfl, g⟩
theorem pe_app {s : S} {j : Nat} {ds ds1 : List PyData} {x : PyData} {apos p2 : Pos} (ha : ZE X a s (.r j) s1) (he : ZA X [e] s1 [.d x] s2) (h1 : s1.R[j]? = some (OL ds1)) (hj : s2.R[j]? = some (OL ds)) (hz : ds.length < sizeLine)
    (hp : ∀ {t1 : TE} {t2 : TA}, PE X a t1 → PA X [e] t2 → PE X (.Call (.Attribute a "append" apos) [e] [] p2) (tBM X.K "list" rAppend t1 t2)) :
    ZE X (.Call (.Attribute a "append" apos) [e] [] p2) s (.d .none) ⟨s2.e, s2.R.set j (OL (ds ++ [x]))⟩ := by
  refine PE.imp (hp ha he) fun σ H Q ⟨T, ρ, g, k⟩ => ⟨T, ρ, g, fun v ρ1 H1 p1 vr1 g1 => ?_⟩
  have y1 := g1.see List.mem_cons_self vr1 (.r h1)
  cases y1 with
  | lst hs _ =>
    refine ⟨.inl ⟨rfl, _, hs⟩, _, ρ1, g1, fun vs ρ2 H2 p2 vr2 g2 => ?_⟩
    obtain ⟨v, e1, g3⟩ := vrs_one vr2 g2
    subst e1
    obtain ⟨p, ws, F, e2, e3, e4, e5, e6⟩ := g3.putL hj
    have ev : V.ref p = V.ref _ := Option.some.inj (e2.symm.trans (vr1.mono p2))
    cases ev
    have hx : Dp X.K F v x := e5 List.mem_cons_self
    refine ⟨_, ws, v, rfl, rfl, e3, by rw [dpsLen e4]; exact hz, k .non ρ2 _ (p1.trans p2) trivial ?_⟩
    exact ((e6 _ _ (dpsApp e4 (.cons hx .nil))).tdrop.tdrop).tflat (show flat .non .none from trivial)
theorem zss_app {j : Nat} {ds ds1 : List PyData} {x : PyData} {apos p2 : Pos} (ha : ZE X a s (.r j) s1) (he : ZE X e s1 (.d x) s2) (h1 : s1.R[j]? = some (OL ds1)) (hj : s2.R[j]? = some (OL ds)) (hz : ds.length < sizeLine) (k : ZSs X rest ⟨s2.e, s2.R.set j (OL (ds ++ [x]))⟩ P)
    (hne : starEach [e] X.env = (false, eval e X.env) :: starEach [] X.env := by rfl)
    (hbase : attributeBase a "append" X.env (eval a X.env) = eval a X.env := by rfl)
    (hfew : ((backTo p2 (starEach (e :: []) X.env)).all (fun x => !x.1) && (backToKw p2 (keywordEach [] X.env)).all (fun x => x.1.isSome)
      && decide ((e :: ([] : List Expr)).length + ([] : List Keyword).length + (if ([] : List Keyword).isEmpty then 0 else 1) < 30)) = true := by rfl)
    (hline : (apos.endLine == p2.line) = true := by rfl) (hplain : (backTo p2 (starEach [] X.env)).any (·.1) = false := by rfl)
    (hs : swapsWith (.Call (.Attribute a "append" apos) [e] [] p2) none pos.line X.env = pure false := by rfl) :
    ZSs X (.Expr (.Call (.Attribute a "append" apos) [e] [] p2) pos :: rest) s P :=
  zss_expr (pe_app ha (za_cons he za_nil hne) h1 hj hz fun h1 h2 => pe_bm PySem.F.plainAttrs_list PySem.F.slot_list_append PySem.F.type_list_append mt_append h1 h2 hbase hfew hline hne hplain) k hs
end
end Z

namespace Z
open PySem L2

/-! ### what is walked -/
def Wk (K : PySem.W.Frag) (J : It) (ds : List PyData) (T0 : List En) : Prop := ∀ l H, OK K (T0 ++ l) H →
  (∀ i x, ds[i]? = some x → J.go i H ∧ ∀ v H', J.yld i H v H' → OK K ((IT.d x, some v) :: (T0 ++ l)) H') ∧ J.stop ds.length H
def tI (K : PySem.W.Frag) (s : S) (ds : List PyData) (s1 : S) : TI := fun σ H R => ∃ T ρ, Sat K s σ ρ T H ∧ ∀ J T0 ρ' H', ρ <+: ρ' → Sat K s1 σ ρ' (T0 ++ T) H' → Wk K J ds T0 → R J H'
def ZI (X : Cx) (tg it : Expr) (s : S) (ds : List PyData) (s1 : S) : Prop := PI X tg it (tI X.K s ds s1)
section
variable {X : Cx} {tg e a b : Expr} {es : List Expr} {s s' s1 s2 : S} {ds : List PyData} {pos p : Pos} {i j : Int}
theorem PI.imp {t t' : TI} (h : PI X tg e t) (k : ∀ σ H Q, t' σ H Q → t σ H Q) : PI X tg e t' := ⟨fun pins s σ H Q I q => h.run pins s σ H Q I (k σ H Q q)⟩
theorem wk_list {K : PySem.W.Frag} {c : Addr} : Wk K (Itl K c) ds [(IT.d (.list ds), some (.ref c))] := fun l H ok => by
  obtain ⟨F, f⟩ := ok.fz
  obtain ⟨u, e1, d⟩ := f.at (x := .list ds) (v := some (.ref c)) List.mem_cons_self
  cases e1
  cases d with
  | lst hs ha =>
    have hs' := f.ext.l hs
    refine ⟨fun i x hx => ?_, _, hs', Nat.le_of_eq (dpsLen ha)⟩
    obtain ⟨v, h1, h2⟩ := dpsGet ha hx
    refine ⟨⟨_, v, hs', h1⟩, fun v' H' ⟨e1, hv⟩ => ?_⟩
    subst e1
    have e2 : v = v' := Option.some.inj (h1.symm.trans (hv _ hs'))
    subst e2
    exact (f.add h2).ok
theorem wk_tup {K : PySem.W.Frag} {c : Addr} : Wk K (Itt K c) ds [(IT.d (.tuple ds), some (.ref c))] := fun l H ok => by
  obtain ⟨F, f⟩ := ok.fz
  obtain ⟨u, e1, d⟩ := f.at (x := .tuple ds) (v := some (.ref c)) List.mem_cons_self
  cases e1
  cases d with
  | tup hs ha =>
    have hs' := f.ext.t hs
    refine ⟨fun i x hx => ?_, _, hs', Nat.le_of_eq (dpsLen ha)⟩
    obtain ⟨v, h1, h2⟩ := dpsGet ha hx
    refine ⟨⟨_, v, hs', h1⟩, fun v' H' ⟨e1, hv⟩ => ?_⟩
    subst e1
    have e2 : v = v' := Option.some.inj (h1.symm.trans (hv _ hs'))
    subst e2
    exact (f.add h2).ok
def rng (lo : Int) (n : Nat) : List PyData := (List.range n).map fun k => .int (lo + (k : Nat))
theorem rng_get {lo : Int} {n k : Nat} {x : PyData} (h : (rng lo n)[k]? = some x) : k < n ∧ x = .int (lo + (k : Nat)) := by
  unfold rng at h
  rw [List.getElem?_map] at h
  cases q : (List.range n)[k]? with
  | none => rw [q] at h; cases h
  | some m =>
    rw [q] at h
    have hk : k < n := by
      have := (List.getElem?_eq_some_iff.mp q).1
      simpa using this
    rw [List.getElem?_range hk] at q
    cases q
    exact ⟨hk, (Option.some.inj h).symm⟩
theorem rng_len {lo : Int} {n : Nat} : (rng lo n).length = n := by unfold rng; simp
theorem wk_rng {K : PySem.W.Frag} {lo : Int} {n : Nat} : Wk K (Itr lo n) (rng lo n) [] := fun l H ok => by
  refine ⟨fun k x hx => ?_, Nat.le_of_eq rng_len.symm⟩
  obtain ⟨h1, h2⟩ := rng_get hx
  subst h2
  refine ⟨h1, fun v H' ⟨e1, e2⟩ => ?_⟩
  subst e1 e2
  exact OK.flat (show flat (.int _) (.int _) from rfl) ok
theorem zi_list (h : ZE X e s (.d (.list ds)) s1) : ZI X tg e s ds s1 := PI.imp (pi_list h) fun σ H R ⟨T, ρ, g, k⟩ => ⟨T, ρ, g, fun v ρ' H' p vr g' => by
  obtain ⟨F, a, vs, e1, hs, ha, f⟩ := g'.seeL (r := .d (.list ds)) List.mem_cons_self trivial (.d _)
  subst e1
  exact ⟨a, rfl, ⟨vs, hs⟩, k _ [(IT.d (.list ds), some (.ref a))] ρ' H' p g' wk_list⟩⟩
theorem zi_tup (h : ZE X e s (.d (.tuple ds)) s1) : ZI X tg e s ds s1 := PI.imp (pi_tup h) fun σ H R ⟨T, ρ, g, k⟩ => ⟨T, ρ, g, fun v ρ' H' p vr g' => by
  obtain ⟨F, a, vs, e1, hs, ha, f⟩ := g'.seeT (r := .d (.tuple ds)) List.mem_cons_self (.d _)
  subst e1
  exact ⟨a, rfl, ⟨vs, hs⟩, k _ [(IT.d (.tuple ds), some (.ref a))] ρ' H' p g' wk_tup⟩⟩
theorem zi_rng1 (h : ZA X [a] s [.d (.int j)] s1) (hj : -(2 ^ 62) ≤ j ∧ j < 2 ^ 62) (hm : X.mg "range" = none) (hg : Gl X "range" := by rfl) (hs : starEach [a] X.env = [(false, eval a X.env)] := by rfl) : ZI X tg (.Call (.Name "range" p) [a] [] pos) s (rng 0 j.toNat) s1 :=
  PI.imp (pi_range1 hg hm h hs) fun σ H R ⟨T, ρ, g, k⟩ => ⟨T, ρ, g, fun vs ρ' H' p vr g' => by
    obtain ⟨v, e1, _⟩ := vrs1 vr
    subst e1
    have e2 := see_int (i := j) (v := v) g' List.mem_cons_self
    subst e2
    exact ⟨j, rfl, hj.1, hj.2, k _ [] ρ' H' p (Sat.tdrop (x := (IT.d (.int j), some (V.int j))) g') wk_rng⟩⟩
theorem zi_rng2 (h : ZA X [a, b] s [.d (.int i), .d (.int j)] s1) (hj : -(2 ^ 62) ≤ i ∧ i < 2 ^ 62 ∧ -(2 ^ 62) ≤ j ∧ j < 2 ^ 62) (hm : X.mg "range" = none) (hg : Gl X "range" := by rfl) (hs : starEach [a, b] X.env = [(false, eval a X.env), (false, eval b X.env)] := by rfl)
    (hs2 : starEach [b] X.env = [(false, eval b X.env)] := by rfl) : ZI X tg (.Call (.Name "range" p) [a, b] [] pos) s (rng i (j - i).toNat) s1 :=
  PI.imp (pi_range2 hg hm h hs hs2) fun σ H R ⟨T, ρ, g, k⟩ => ⟨T, ρ, g, fun vs ρ' H' p vr g' => by
    obtain ⟨v, w, e1, _⟩ := vrs2 vr
    subst e1
    have e2 := see_int (i := i) (v := v) g' List.mem_cons_self
    have e3 := see_int (i := j) (v := w) g' (List.mem_cons_of_mem _ List.mem_cons_self)
    subst e2 e3
    exact ⟨i, j, rfl, hj, k _ [] ρ' H' p (Sat.tdrop (x := (IT.d (.int j), some (V.int j))) (Sat.tdrop (x := (IT.d (.int i), some (V.int i))) g')) wk_rng⟩⟩

/-! ### targets -/
/-- but for the slots at vs -/
def offv (vs : List Nat) (σ σ' : L2.St) : Prop := σ'.length = σ.length ∧ ∀ k, k ∉ vs → σ'[k]? = σ[k]?
def tG (K : PySem.W.Frag) (vs : List Nat) (x : PyData) (s s' : S) : TG := fun v σ H Q => ∃ T ρ, Sat K s σ ρ ((IT.d x, some v) :: T) H ∧ ∀ σ', offv vs σ σ' → Sat K s' σ' ρ T H → Q σ' H
def ZG (X : Cx) (tg : Expr) (vs : List Nat) (x : PyData) (s s' : S) : Prop := PG X tg (tG X.K vs x s s')
def tGs (K : PySem.W.Frag) (vs : List Nat) (xs : List PyData) (s s' : S) : TGs := fun us σ H Q => ∃ T ρ, xs.length = us.length ∧ Sat K s σ ρ (ds2 xs us ++ T) H ∧ ∀ σ', offv vs σ σ' → Sat K s' σ' ρ T H → Q σ' H
def ZGs (X : Cx) (tgs : List Expr) (vs : List Nat) (xs : List PyData) (s s' : S) : Prop := PGs X tgs (tGs X.K vs xs s s')
theorem PG.imp {t t' : TG} (h : PG X tg t) (k : ∀ v σ H Q, t' v σ H Q → t v σ H Q) : PG X tg t' := ⟨fun pins s σ H v u Q I r q => h.run pins s σ H v u Q I r (k v σ H Q q)⟩
theorem PGs.imp {tgs : List Expr} {t t' : TGs} (h : PGs X tgs t) (k : ∀ v σ H Q, t' v σ H Q → t v σ H Q) : PGs X tgs t' := ⟨fun pins s σ H v u Q I r q => h.run pins s σ H v u Q I r (k v σ H Q q)⟩
theorem offv_set {vs : List Nat} {σ : L2.St} {k : Nat} {v : Option V} (h : k ∈ vs) : offv vs σ (σ.set k v) := ⟨by simp, fun m hm => by
  rw [List.getElem?_set_ne]
  rintro rfl
  exact hm h⟩
theorem offv.trans {vs : List Nat} {σ σ' σ2 : L2.St} (h : offv vs σ σ') (h2 : offv vs σ' σ2) : offv vs σ σ2 := ⟨h2.1.trans h.1, fun k hk => (h2.2 k hk).trans (h.2 k hk)⟩
theorem zg_name {y : Str} {vs : List Nat} {x : PyData} (k : Nat) (hk : k < s.e.length) (hN : X.N.Nodup) (hv : k ∈ vs := by simp) (hi : X.N[k]? = some y := by rfl) (hx : Loc X.env.scope y := by first | exact .inl rfl | exact .inr rfl)
    (hf : X.fn y = true ∨ X.env.scope.names.lookup y = some .local := by first | exact .inl rfl | exact .inr rfl) : ZG X (.Name y pos) vs x s ⟨s.e.set k (.d x), s.R⟩ :=
  PG.imp (pg_name hN hi hx hf) fun v σ H Q ⟨T, ρ, g, q⟩ => q _ (offv_set hv) (g.put (r := .d x) hk trivial)
theorem zgs_nil {vs : List Nat} : ZGs X [] vs [] s s := PGs.imp pgs_nil fun us σ H Q ⟨T, ρ, hl, g, q⟩ => by
  cases us with
  | nil => exact ⟨rfl, q σ ⟨rfl, fun _ _ => rfl⟩ g⟩
  | cons u us => simp at hl
theorem zgs_cons {vs : List Nat} {x : PyData} {xs : List PyData} {t : Expr} {ts : List Expr} (h1 : ZG X t vs x s s1) (h2 : ZGs X ts vs xs s1 s2) (hs : (assignEach (t :: ts) X.env).map (·.2) = assign t X.env :: (assignEach ts X.env).map (·.2) := by rfl) : ZGs X (t :: ts) vs (x :: xs) s s2 :=
  PGs.imp (pgs_cons h1 h2 hs) fun us σ H Q ⟨T, ρ, hl, g, q⟩ => by
    cases us with
    | nil => simp at hl
    | cons u us =>
      exact ⟨u, us, rfl, ds2 xs us ++ T, ρ, g, fun σ' o g' => ⟨T, ρ, by simpa using hl, g', fun σ2 o2 g2 => q σ2 (o.trans o2) g2⟩⟩
theorem Sat.openT {K : PySem.W.Frag} {σ : L2.St} {ρ : List V} {T : List En} {H : Hp} {v : V} (g : Sat K s σ ρ ((IT.d (.tuple ds), some v) :: T) H) : ∃ c vs, v = .ref c ∧ SqT K H c vs ∧ ds.length = vs.length ∧ Sat K s σ ρ (ds2 ds vs ++ T) H := by
  obtain ⟨F, c, vs, e1, hs, ha, f⟩ := g.seeT (r := .d (.tuple ds)) List.mem_cons_self (.d _)
  refine ⟨c, vs, e1, hs, (dpsLen ha).symm, g.le, g.lr, g.al, ?_⟩
  rw [List.append_assoc]
  have add : ∀ {ds : List PyData} {vs : List V} {l : List En}, DpAll K F vs ds → Fz K F l H → Fz K F (ds2 ds vs ++ l) H := by
    intro ds
    induction ds with
    | nil => intro vs l h f; cases h; exact f
    | cons d ds ih =>
      intro vs l h f
      cases h with
      | cons h1 h2 => exact (ih h2 f).add h1
  exact (add ha f.tail).ok
theorem zg_tup {vs : List Nat} {ts : List Expr} {k : Nat} (h : ZGs X ts vs ds s s') (hl : ts.length = ds.length := by rfl) (hc : X.calm = true := by rfl) (hn : (assignEach ts X.env).length = ds.length := by rfl) (hst : (assignEach ts X.env).findIdx? (·.1) = none := by rfl) : ZG X (.Tuple ts k pos) vs (.tuple ds) s s' :=
  PG.imp (pg_tup hc h hn hst) fun v σ H Q ⟨T, ρ, g, q⟩ => by
    obtain ⟨c, us, e1, hs, hl, g'⟩ := g.openT
    subst e1
    exact ⟨c, us, rfl, hs, hl.symm, T, ρ, hl, g', q⟩

/-! ### loops -/
variable {rest body : List Stmt} {P : Po} {M : S → Prop}
/-- families of goals, of blocks -/
theorem pss_fam {sts : List Stmt} (fam : S → Po → Prop) (h : ∀ t Q, fam t Q → ZSs X sts t Q) : PSs X sts (fun D σ H => ∃ t Q T ρ, fam t Q ∧ Q.b ≤ ρ.length ∧ Sat X.K t σ ρ T H ∧ Meets X.K Q (ρ.take Q.b) T D) :=
  ⟨fun pins sh σ H D I ⟨t, Q, T, ρ, m, hb, g, q⟩ => (h t Q m).run pins sh σ H D I ⟨t, T, ρ, rfl, hb, g, q⟩⟩
theorem pg_fam (vs : List Nat) (fam : PyData → S → S → Prop) (h : ∀ x t t', fam x t t' → ZG X tg vs x t t') : PG X tg (fun v σ H Q => ∃ x t t', fam x t t' ∧ tG X.K vs x t t' v σ H Q) :=
  ⟨fun pins sh σ H v u Q I r ⟨x, t, t', m, q⟩ => (h x t t' m).run pins sh σ H v u Q I r q⟩
theorem pt_fam (fam : S → (Bool → S → Prop) → Prop) (h : ∀ t R, fam t R → ZT X e t R) : PT X e (fun σ H Q => ∃ t R, fam t R ∧ tT X.K t R σ H Q) :=
  ⟨fun pins sh σ H Q I ⟨t, R, m, q⟩ => (h t R m).run pins sh σ H Q I q⟩
/-- what one turn of a for is -/
structure Turn1 (X : Cx) (tg : Expr) (body : List Stmt) (x : PyData) (t : S) (Q : Po) : Prop where
  go : ∃ vs t', ZG X tg vs x t t' ∧ ZSs X body t' Q
theorem zss_for {it : Expr} {vs : List Nat} (hi : ZI X tg it s ds s1) (nb : Nat) (hb : P.b ≤ nb) (hnb : nb ≤ s1.R.length) (Iv : Nat → S → Prop) (h0 : Iv 0 s1)
    (turn : ∀ i x t, ds[i]? = some x → Iv i t → ∃ t', ZG X tg vs x t t' ∧ ZSs X body t' { b := nb, nx := Iv (i + 1), rt := P.rt, bk := M, ct := Iv (i + 1) }) (hd : ∀ t, Iv ds.length t → M t) (k : ∀ t, M t → ZSs X rest t P)
    (hp : PassesOwn (model X.prog X.w) X.A X.env X.xe) (hc : X.calm = true := by rfl) (hs : ∀ x, foldedSetIterable it X.env x = pure x := by intro _; rfl) : ZSs X (.For tg it body [] pos :: rest) s P := by
  refine zss_seq (M := M) (PS.imp (ps_for hp hc hi (pg_fam vs (fun x t t' => ∃ i, ds[i]? = some x ∧ Iv i t ∧ ZG X tg vs x t t' ∧ ZSs X body t' { b := nb, nx := Iv (i + 1), rt := P.rt, bk := M, ct := Iv (i + 1) }) fun x t t' ⟨i, _, _, h, _⟩ => h)
    (pss_fam (fun t Q => ZSs X body t Q) fun t Q h => h) hs) fun D σ H ⟨t, T, ρ, e1, hb0, g, q⟩ => ?_) k
  subst e1
  refine ⟨T, ρ, g, fun J T0 ρ1 H1 p1 g1 w => ?_⟩
  have hr1 : nb ≤ ρ1.length := by rw [← g1.lr]; exact hnb
  have base : ∀ {ρ2 : List V}, ρ1.take nb <+: ρ2 → ρ.take P.b <+: ρ2 := fun p2 => by
    have z : ρ.take P.b = (ρ1.take nb).take P.b := by
      rw [List.take_take, Nat.min_eq_left hb]
      exact (take_pre p1 hb0).symm
    rw [z]
    exact (List.take_prefix _ _).trans p2
  refine ⟨fun i m σ' H' => m = ds.length - i ∧ i ≤ ds.length ∧ ∃ t ρ2, Iv i t ∧ ρ1.take nb <+: ρ2 ∧ Sat X.K t σ' ρ2 (T0 ++ T) H', ⟨_, rfl, Nat.zero_le _, s1, ρ1, h0, List.take_prefix _ _, g1⟩, ?_⟩
  rintro i m σ' H' ⟨rfl, hi', t, ρ2, iv, p2, g2⟩
  obtain ⟨w1, w2⟩ := w (T ++ (ES t.e σ' ++ RS t.R ρ2)) H' (by rw [← List.append_assoc]; exact g2.ok)
  by_cases hlt : i < ds.length
  · obtain ⟨go, yl⟩ := w1 i ds[i] (List.getElem?_eq_getElem hlt)
    refine .inr ⟨go, fun σ3 H3 => ∃ t ρ3, Iv (i + 1) t ∧ ρ1.take nb <+: ρ3 ∧ Sat X.K t σ3 ρ3 (T0 ++ T) H3, fun σ3 H3 ⟨t3, ρ3, a1, a2, a3⟩ => ⟨ds.length - (i + 1), by omega, rfl, hlt, t3, ρ3, a1, a2, a3⟩, fun v H4 y => ?_⟩
    have ok := yl v H4 y
    have g4 : Sat X.K t σ' ρ2 ((IT.d ds[i], some v) :: (T0 ++ T)) H4 := ⟨g2.le, g2.lr, g2.al, by
      rw [← List.append_assoc] at ok
      exact ok⟩
    obtain ⟨t', hg, hbody⟩ := turn i ds[i] t (List.getElem?_eq_getElem hlt) iv
    refine ⟨ds[i], t, t', ⟨i, List.getElem?_eq_getElem hlt, iv, hg, hbody⟩, T0 ++ T, ρ2, g4, fun σ5 o g5 => ?_⟩
    obtain ⟨z1, z2⟩ := take_pre' p2 hr1
    refine ⟨t', _, T0 ++ T, ρ2, hbody, z2, g5, ⟨fun s' σ'' ρ' H' a p g' => ?_, fun r s' σ'' ρ' H' v a p vr g' => ?_, fun s' σ'' ρ' H' a p g' => ?_, fun s' σ'' ρ' H' a p g' => ?_⟩⟩
    · exact ⟨s', ρ', a, by rw [← z1]; exact p, g'⟩
    · refine q.rt r s' σ'' ρ' H' v a (base (by rw [← z1]; exact p)) vr ?_
      have gp : Sat X.K s' σ'' ρ' (T0 ++ ((itOf r, some v) :: T)) H' := g'.tperm (List.perm_middle.symm)
      exact gp.tdrops
    · exact q.nx s' σ'' ρ' H' a (base (by rw [← z1]; exact p)) g'.tdrops
    · exact ⟨s', ρ', a, by rw [← z1]; exact p, g'⟩
  · have e : i = ds.length := by omega
    subst e
    exact .inl ⟨w2, q.nx t σ' ρ2 H' (hd t iv) (base p2) g2.tdrops⟩
theorem zss_while {c : Expr} (nb : Nat) (hb : P.b ≤ nb) (hnb : nb ≤ s.R.length) (Iv : Nat → S → Prop) (m0 : Nat) (h0 : Iv m0 s)
    (turn : ∀ m t, Iv m t → ∃ R, ZT X c t R ∧ (∀ t', R true t' → ZSs X body t' { b := nb, nx := fun u => ∃ m', m' < m ∧ Iv m' u, rt := P.rt, bk := M, ct := fun u => ∃ m', m' < m ∧ Iv m' u }) ∧ ∀ t', R false t' → M t') (k : ∀ t, M t → ZSs X rest t P)
    (hp : PassesOwn (model X.prog X.w) X.A X.env X.xe) : ZSs X (.While c body [] pos :: rest) s P := by
  refine zss_seq (M := M) (PS.imp (ps_while hp (pt_fam (fun t R => ZT X c t R) fun t R h => h) (pss_fam (fun t Q => ZSs X body t Q) fun t Q h => h)) fun D σ H ⟨t, T, ρ, e1, hb0, g, q⟩ => ?_) k
  subst e1
  have hr1 : nb ≤ ρ.length := by rw [← g.lr]; exact hnb
  have base : ∀ {ρ2 : List V}, ρ.take nb <+: ρ2 → ρ.take P.b <+: ρ2 := fun p2 => by
    have z : ρ.take P.b = (ρ.take nb).take P.b := by rw [List.take_take, Nat.min_eq_left hb]
    rw [z]
    exact (List.take_prefix _ _).trans p2
  refine ⟨fun m σ' H' => ∃ t ρ2, Iv m t ∧ ρ.take nb <+: ρ2 ∧ Sat X.K t σ' ρ2 T H', ⟨m0, _, ρ, h0, List.take_prefix _ _, g⟩, ?_⟩
  rintro m σ' H' ⟨t, ρ2, iv, p2, g2⟩
  obtain ⟨R, ht, h1, h2⟩ := turn m t iv
  obtain ⟨z1, z2⟩ := take_pre' p2 hr1
  refine ⟨t, R, ht, T, ρ2, g2, fun b t' ρ3 H3 hr p3 g3 => ?_⟩
  have p4 : ρ.take nb <+: ρ3 := p2.trans p3
  obtain ⟨z3, z4⟩ := take_pre' p4 hr1
  cases b with
  | true =>
    refine ⟨fun σ5 H5 => ∃ m', m' < m ∧ ∃ t ρ5, Iv m' t ∧ ρ.take nb <+: ρ5 ∧ Sat X.K t σ5 ρ5 T H5, fun σ5 H5 ⟨m', l, w⟩ => ⟨m', l, w⟩, t', _, T, ρ3, h1 t' hr, z4, g3, ⟨fun s' σ'' ρ' H' a p g' => ?_, fun r s' σ'' ρ' H' v a p vr g' => ?_, fun s' σ'' ρ' H' a p g' => ?_, fun s' σ'' ρ' H' a p g' => ?_⟩⟩
    · obtain ⟨m', l, a⟩ := a
      exact ⟨m', l, s', ρ', a, by rw [← z3]; exact p, g'⟩
    · exact q.rt r s' σ'' ρ' H' v a (base (by rw [← z3]; exact p)) vr g'
    · exact q.nx s' σ'' ρ' H' a (base (by rw [← z3]; exact p)) g'
    · obtain ⟨m', l, a⟩ := a
      exact ⟨m', l, s', ρ', a, by rw [← z3]; exact p, g'⟩
  | false => exact q.nx t' σ' ρ3 H3 (h2 t' hr) (base p4) g3
end
end Z

namespace Z
open PySem L2

/-! ### a comprehension's block -/
def wipeE (e : List SD) : List Nat → List SD
  | [] => e
  | v :: vs => (wipeE e vs).set v .un
theorem wipeE_len (e : List SD) : ∀ vs : List Nat, (wipeE e vs).length = e.length
  | [] => rfl
  | v :: vs => by unfold wipeE; rw [List.length_set, wipeE_len e vs]
theorem wipeE_get {e : List SD} {i : Nat} {a : SD} : ∀ {vs : List Nat}, (wipeE e vs)[i]? = some a → a = .un ∨ (e[i]? = some a ∧ i ∉ vs)
  | [], h => .inr ⟨h, by simp⟩
  | v :: vs, h => by
    unfold wipeE at h
    by_cases hi : i = v
    · subst hi
      by_cases hv : i < (wipeE e vs).length
      · rw [List.getElem?_set_self hv] at h
        exact .inl (Option.some.inj h).symm
      · rw [List.getElem?_eq_none (by simpa using hv)] at h
        cases h
    · rw [List.getElem?_set_ne (Ne.symm hi)] at h
      rcases wipeE_get h with z | ⟨z1, z2⟩
      · exact .inl z
      · exact .inr ⟨z1, by simp only [List.mem_cons, not_or]; exact ⟨hi, z2⟩⟩
theorem wipe_keep {σ : L2.St} {i : Nat} : ∀ {vs : List Nat}, i ∉ vs → (wipe σ vs)[i]? = σ[i]?
  | [], _ => rfl
  | v :: vs, h => by
    simp only [List.mem_cons, not_or] at h
    unfold wipe
    rw [List.getElem?_set_ne (Ne.symm h.1)]
    exact wipe_keep h.2
theorem wipe_at {σ : L2.St} {i : Nat} (hi : i < σ.length) : ∀ {vs : List Nat}, i ∈ vs → (wipe σ vs)[i]? = some none
  | [], h => by simp at h
  | v :: vs, h => by
    unfold wipe
    by_cases e : i = v
    · subst e
      rw [List.getElem?_set_self (by rw [wipe_length]; exact hi)]
    · rw [List.getElem?_set_ne (Ne.symm e)]
      exact wipe_at hi (by simpa [e] using h)
theorem wipe_off {σ σ' : L2.St} {vs : List Nat} (h : offv vs (wipe σ vs) σ') : wipe σ' vs = wipe σ vs := by
  have hl : σ'.length = σ.length := by rw [h.1, wipe_length]
  apply List.ext_getElem?
  intro i
  by_cases hv : i ∈ vs
  · by_cases hi : i < σ.length
    · rw [wipe_at (by omega) hv, wipe_at hi hv]
    · rw [List.getElem?_eq_none (by rw [wipe_length]; omega), List.getElem?_eq_none (by rw [wipe_length]; omega)]
  · rw [wipe_keep hv, h.2 i hv]
section
variable {K : PySem.W.Frag} {H F : Hp} {T l : List En} {σ : L2.St} {ρ : List V} {s : S}
theorem Fz.es : ∀ {e : List SD} {σ : L2.St} {l : List En}, e.length = σ.length → (∀ (i : Nat) (x : PyData) (v : Option V), e[i]? = some (SD.d x) → σ[i]? = some v → ∃ u, v = some u ∧ Dp K F u x) → Fz K F l H → Fz K F (ES e σ ++ l) H
  | [], _, _, _, _, f => f
  | a :: e, [], _, hl, _, _ => by simp at hl
  | a :: e, v :: σ, l, hl, h, f => by
    have ih := Fz.es (e := e) (σ := σ) (l := l) (by simpa using hl) (fun i x w h1 h2 => h (i + 1) x w (by simpa using h1) (by simpa using h2)) f
    show Fz K F ((itOf a, v) :: (ES e σ ++ l)) H
    cases a with
    | d x =>
      obtain ⟨u, e1, hd⟩ := h 0 x v rfl rfl
      subst e1
      exact ih.add hd
    | un => exact ih.un
    | r j => exact ih.un
theorem es_set {e : List SD} {σ : L2.St} (hl : e.length = σ.length) (i : Nat) (a : SD) (v : Option V) : ES (e.set i a) (σ.set i v) = (ES e σ).set i (itOf a, v) := by
  unfold ES
  apply List.ext_getElem?
  intro k
  rw [List.getElem?_zipWith]
  by_cases hk : k = i
  · subst hk
    by_cases hi : k < e.length
    · rw [List.getElem?_set_self hi, List.getElem?_set_self (by omega), List.getElem?_set_self (by rw [List.length_zipWith]; omega)]
    · rw [List.set_eq_of_length_le (by omega), List.set_eq_of_length_le (by omega), List.set_eq_of_length_le (by rw [List.length_zipWith]; omega), List.getElem?_zipWith]
  · rw [List.getElem?_set_ne (Ne.symm hk), List.getElem?_set_ne (Ne.symm hk), List.getElem?_set_ne (Ne.symm hk), List.getElem?_zipWith]
theorem OK.wipe {e : List SD} {σ : L2.St} (hl : e.length = σ.length) (h : OK K (T ++ (ES e σ ++ l)) H) : ∀ vs : List Nat, OK K (T ++ (ES (wipeE e vs) (L2.wipe σ vs) ++ l)) H
  | [] => h
  | v :: vs => by
    have ih := OK.wipe hl h vs
    unfold wipeE L2.wipe
    rw [es_set (by rw [wipeE_len, wipe_length]; exact hl)]
    by_cases hv : v < (ES (wipeE e vs) (L2.wipe σ vs)).length
    · have k := (ih.un (v := none)).set (T.length + v)
      rw [List.set_append_right _ _ (Nat.le_add_right _ _), Nat.add_sub_cancel_left, List.set_append_left _ _ hv] at k
      exact k
    · rw [List.set_eq_of_length_le (by omega)]
      exact ih
theorem cas {α : Type} (a b c : List α) : (a ++ (b ++ c)).Perm (b ++ (a ++ c)) := by
  rw [← List.append_assoc, ← List.append_assoc]
  exact List.Perm.append_right _ List.perm_append_comm
/-- into the block -/
theorem Sat.blk (g : Sat K s σ ρ T H) (vs : List Nat) : Sat K ⟨wipeE s.e vs, s.R⟩ (L2.wipe σ vs) ρ (ES s.e σ ++ T) H := by
  refine ⟨by rw [wipeE_len, wipe_length]; exact g.le, g.lr, fun i j e => ?_, ?_⟩
  · rcases wipeE_get e with z | ⟨z1, z2⟩
    · cases z
    · obtain ⟨v, e1, e2⟩ := g.al i j z1
      exact ⟨v, by rw [wipe_keep z2]; exact e1, e2⟩
  · obtain ⟨F, f⟩ := g.ok.fz
    have f2 : Fz K F (ES s.e σ ++ (T ++ (ES s.e σ ++ RS s.R ρ))) H := Fz.es g.le (fun i x v h1 h2 => f.at (List.mem_append_right _ (List.mem_append_left _ (List.mem_of_getElem? (es_get h1 h2))))) f
    have ok : OK K ((ES s.e σ ++ T) ++ (ES s.e σ ++ RS s.R ρ)) H := by rw [List.append_assoc]; exact f2.ok
    exact OK.wipe g.le ok vs
/-- out of it -/
theorem Sat.unblk {R : List Own} {ρ' : List V} {e' : List SD} {σ' : L2.St} {A : List En} (g : Sat K s σ ρ T H) {H' : Hp} {T' : List En} (p : ρ <+: ρ') (h : Sat K ⟨e', R⟩ σ' ρ' (A ++ (ES s.e σ ++ T')) H') : Sat K ⟨s.e, R⟩ σ ρ' (A ++ T') H' := by
  refine ⟨g.le, h.lr, fun i j e => ?_, ?_⟩
  · obtain ⟨v, e1, e2⟩ := g.al i j e
    exact ⟨v, e1, VR.mono (r := .r j) e2 p⟩
  · have k : OK K ((A ++ (ES s.e σ ++ T')) ++ (ES e' σ' ++ RS R ρ')) H' := h.ok
    have k2 : OK K (ES e' σ' ++ ((A ++ T') ++ (ES s.e σ ++ RS R ρ'))) H' := by
      refine k.perm ?_
      simp only [List.append_assoc]
      have q1 : (ES s.e σ ++ (T' ++ (ES e' σ' ++ RS R ρ'))).Perm (ES e' σ' ++ (T' ++ (ES s.e σ ++ RS R ρ'))) :=
        (cas _ _ _).trans (((cas (ES s.e σ) (ES e' σ') (RS R ρ')).append_left T').trans (cas _ _ _))
      exact (q1.append_left A).trans (cas _ _ _)
    exact k2.right
end
def ZTs (X : Cx) (ifs : List Expr) (s : S) (R : Bool → S → Prop) : Prop := PTs X ifs (tT X.K s R)
section
variable {X : Cx} {tg e a b elt iter : Expr} {es ifs : List Expr} {s s' s1 s2 : S} {ds : List PyData} {pos p : Pos} {i j : Int}
theorem zts_nil : ZTs X [] s (Is true s) := ⟨fun pins sh σ H Q I ⟨T, ρ, g, q⟩ => pts_nil.run pins sh σ H Q I (q true s ρ H ⟨rfl, rfl⟩ (pre_refl ρ) g)⟩
theorem zts_one {R : Bool → S → Prop} {c : Expr} (h : ZT X c s R) : ZTs X [c] s R := pts_one h
abbrev bl (X : Cx) (scope : Scope) (z : Shared × Hp × Addr × List (Str × Addr) × List Addr) : Cx := X.blk z.1 z.2.1 scope (compEnvC scope z.2.2.2.1 z.2.2.1 X.env) z.2.2.2.2
theorem lc_run {scope : Scope} {own : List (Str × Nat)} {vs : List Nat} (hvs : own.map (·.2) = vs) (Iv : Nat → List PyData → List Own → Prop) (h0 : Iv 0 [] s1.R)
    (turn : ∀ i x acc R, ds[i]? = some x → Iv i acc R → ∃ t' Rt, (∀ z, ZG (bl X scope z) tg vs x ⟨wipeE s1.e vs, R⟩ t') ∧ (∀ z, ZTs (bl X scope z) ifs t' Rt) ∧ (∀ t2, Rt false t2 → Iv (i + 1) acc t2.R) ∧
      ∀ t2, Rt true t2 → ∃ y t3, (∀ z, ZE (bl X scope z) elt t2 (.d y) t3) ∧ Iv (i + 1) (acc ++ [y]) t3.R) (hsz : ds.length < sizeLine)
    (hi : ZI X tg iter s ds s1) (hN : X.N.Nodup) (hc : X.calm = true) (ok : BlkOk X.N X.env.scope scope own) (hs : ∀ x, foldedSetIterable iter X.env x = pure x) :
    ∃ te, (PE X (.ListComp elt [⟨tg, iter, ifs, 0⟩] scope pos) te ∧ ∀ (i : Nat) (y : Str) (py spos : Pos), X.N[i]? = some y → X.env.scope.names.lookup y = some .local → swapsWith (.ListComp elt [⟨tg, iter, ifs, 0⟩] scope pos) (some (.Name y py)) spos.line X.env = pure true → PS X (.Assign [.Name y py] (.ListComp elt [⟨tg, iter, ifs, 0⟩] scope pos) spos) (tAsg te (gName i))) ∧ ∀ T σ ρ H Q, Sat X.K s σ ρ T H →
      (∀ acc R ρ' D H', Iv ds.length acc R → ρ <+: ρ' → Sat X.K ⟨s1.e, R⟩ σ ρ' ((IT.o (OL acc), some (.ref D)) :: T) H' → Q (.ref D) H') → te σ H Q := by
  subst hvs
  have hg : ∀ (sh : Shared) (H : Hp) (C : Addr) (cl : List (Str × Addr)) (fp : List Addr), PG (X.blk sh H scope (compEnvC scope cl C X.env) fp) tg (fun v σ H Q => ∃ x t t', (∀ z, ZG (bl X scope z) tg (own.map (·.2)) x t t') ∧ tG X.K (own.map (·.2)) x t t' v σ H Q) := fun sh H C cl fp =>
    ⟨fun pins sh' σ H' v u Q I r ⟨x, t, t', m, q⟩ => (m (sh, H, C, cl, fp)).run pins sh' σ H' v u Q I r q⟩
  have ht : ∀ (sh : Shared) (H : Hp) (C : Addr) (cl : List (Str × Addr)) (fp : List Addr), PTs (X.blk sh H scope (compEnvC scope cl C X.env) fp) ifs (fun σ H Q => ∃ t R, (∀ z, ZTs (bl X scope z) ifs t R) ∧ tT X.K t R σ H Q) := fun sh H C cl fp =>
    ⟨fun pins sh' σ H' Q I ⟨t, R, m, q⟩ => (m (sh, H, C, cl, fp)).run pins sh' σ H' Q I q⟩
  have he : ∀ (sh : Shared) (H : Hp) (C : Addr) (cl : List (Str × Addr)) (fp : List Addr), PE (X.blk sh H scope (compEnvC scope cl C X.env) fp) elt (fun σ H Q => ∃ t y t', (∀ z, ZE (bl X scope z) elt t (.d y) t') ∧ tE X.K t (.d y) t' σ H Q) := fun sh H C cl fp =>
    ⟨fun pins sh' σ H' Q I ⟨t, y, t', m, q⟩ => (m (sh, H, C, cl, fp)).run pins sh' σ H' Q I q⟩
  refine ⟨_, ⟨pe_lc hc hN hi ok hg ht he hs, fun i y py spos hy hyl hsw => ps_setLc hc hN hy hyl hsw hi ok hg ht he hs⟩, fun T σ ρ H Q g fin => ?_⟩
  refine ⟨T, ρ, g, fun J T0 ρ1 H1 p1 g1 w D hD => ?_⟩
  -- the block's start
  have gb := g1.blk (own.map (·.2))
  have gD : Sat X.K ⟨wipeE s1.e (own.map (·.2)), s1.R⟩ (wipe σ (own.map (·.2))) ρ1 ((IT.o (OL []), some (.ref D)) :: (ES s1.e σ ++ (T0 ++ T))) (upd H1 D (.lst [])) := by
    obtain ⟨F, f⟩ := gb.ok.fz
    exact gb.of (f.lstO (ds := []) (vs := []) .nil hD)
  refine ⟨fun i m H' => m = ds.length - i ∧ i ≤ ds.length ∧ ∃ acc R ρ', Iv i acc R ∧ acc.length ≤ i ∧ ρ1 <+: ρ' ∧ Sat X.K ⟨wipeE s1.e (own.map (·.2)), R⟩ (wipe σ (own.map (·.2))) ρ' ((IT.o (OL acc), some (.ref D)) :: (ES s1.e σ ++ (T0 ++ T))) H', ⟨_, rfl, Nat.zero_le _, [], s1.R, ρ1, h0, Nat.le_refl _, pre_refl _, gD⟩, ?_⟩
  rintro i m H' ⟨rfl, hi', acc, R, ρ', iv, hacc, p', g'⟩
  have okw : OK X.K (T0 ++ ((IT.o (OL acc), some (.ref D)) :: (ES s1.e σ ++ T) ++ (ES (wipeE s1.e (own.map (·.2))) (wipe σ (own.map (·.2))) ++ RS R ρ'))) H' := by
    refine g'.ok.perm ?_
    show ([(IT.o (OL acc), some (V.ref D))] ++ (ES s1.e σ ++ (T0 ++ T)) ++ (ES (wipeE s1.e (own.map (·.2))) (wipe σ (own.map (·.2))) ++ RS R ρ')).Perm (T0 ++ ([(IT.o (OL acc), some (V.ref D))] ++ (ES s1.e σ ++ T) ++ (ES (wipeE s1.e (own.map (·.2))) (wipe σ (own.map (·.2))) ++ RS R ρ')))
    simp only [List.append_assoc]
    exact ((cas (ES s1.e σ) T0 _).append_left _).trans (cas _ _ _)
  obtain ⟨w1, w2⟩ := w _ H' okw
  by_cases hlt : i < ds.length
  · obtain ⟨go, yl⟩ := w1 i ds[i] (List.getElem?_eq_getElem hlt)
    obtain ⟨t', Rt, hG, hT, hF, hE⟩ := turn i ds[i] acc R (List.getElem?_eq_getElem hlt) iv
    refine .inr ⟨go, fun H3 => ∃ acc R ρ', Iv (i + 1) acc R ∧ acc.length ≤ i + 1 ∧ ρ1 <+: ρ' ∧ Sat X.K ⟨wipeE s1.e (own.map (·.2)), R⟩ (wipe σ (own.map (·.2))) ρ' ((IT.o (OL acc), some (.ref D)) :: (ES s1.e σ ++ (T0 ++ T))) H3,
      fun H3 ⟨a1, a2, a3, a4⟩ => ⟨ds.length - (i + 1), by omega, rfl, hlt, a1, a2, a3, a4⟩, fun v H4 y => ?_⟩
    have okv := yl v H4 y
    have g4 : Sat X.K ⟨wipeE s1.e (own.map (·.2)), R⟩ (wipe σ (own.map (·.2))) ρ' ((IT.d ds[i], some v) :: ((IT.o (OL acc), some (.ref D)) :: (ES s1.e σ ++ (T0 ++ T)))) H4 := by
      refine ⟨g'.le, g'.lr, g'.al, okv.perm (List.Perm.cons _ ?_)⟩
      show (T0 ++ ([(IT.o (OL acc), some (V.ref D))] ++ (ES s1.e σ ++ T) ++ (ES (wipeE s1.e (own.map (·.2))) (wipe σ (own.map (·.2))) ++ RS R ρ'))).Perm ([(IT.o (OL acc), some (V.ref D))] ++ (ES s1.e σ ++ (T0 ++ T)) ++ (ES (wipeE s1.e (own.map (·.2))) (wipe σ (own.map (·.2))) ++ RS R ρ'))
      simp only [List.append_assoc]
      exact (cas _ _ _).trans ((cas T0 (ES s1.e σ) _).append_left _)
    -- the same again with a second copy of the frame, for the way back
    refine ⟨ds[i], _, t', hG, _, ρ', ⟨g4.le, g4.lr, g4.al, g4.ok⟩, fun σ2 o g5 => ⟨wipe_off o, ?_⟩⟩
    have back : ∀ {R2 : List Own} {e2 : List SD} {ρ2 : List V} {acc2 : List PyData} {H2 : Hp}, ρ' <+: ρ2 → Sat X.K ⟨e2, R2⟩ σ2 ρ2 ((IT.o (OL acc2), some (.ref D)) :: (ES s1.e σ ++ (T0 ++ T))) H2 →
        Sat X.K ⟨wipeE s1.e (own.map (·.2)), R2⟩ (wipe σ (own.map (·.2))) ρ2 ((IT.o (OL acc2), some (.ref D)) :: (ES s1.e σ ++ (T0 ++ T))) H2 := fun {R2 e2 ρ2 acc2 H2} p2 g2 => by
      have b := g1.unblk (A := [(IT.o (OL acc2), some (.ref D))]) (p'.trans p2) g2
      have b2 := b.blk (own.map (·.2))
      refine b2.tperm ?_
      exact List.perm_middle
    refine ⟨t', Rt, hT, _, ρ', g5, fun b t2 ρ2 H5 hr p2 g6 => ?_⟩
    cases b with
    | false => exact ⟨acc, t2.R, ρ2, hF t2 hr, by omega, p'.trans p2, back p2 g6⟩
    | true =>
      obtain ⟨yd, t3, hy, iv3⟩ := hE t2 hr
      show ∃ _, _
      refine ⟨t2, yd, t3, hy, _, ρ2, g6, fun u ρ3 H6 p3 _ g7 => ?_⟩
      have g8 : OK X.K ((IT.o (OL acc), some (.ref D)) :: ((IT.d yd, some u) :: (ES s1.e σ ++ (T0 ++ T)) ++ (ES t3.e σ2 ++ RS t3.R ρ3))) H6 := g7.ok.perm (List.Perm.swap _ _ _)
      obtain ⟨F, f⟩ := g8.fz
      obtain ⟨pD, vs, e3, h1, h2, h3⟩ := f.putL (ds' := acc)
      cases e3
      obtain ⟨u', e4, hu⟩ := f.at (x := yd) (v := some u) (List.mem_cons_of_mem _ List.mem_cons_self)
      cases e4
      refine ⟨vs, h1, by rw [dpsLen h2]; omega, acc ++ [yd], t3.R, ρ3, iv3, by rw [List.length_append]; exact Nat.succ_le_succ hacc, (p'.trans p2).trans p3, back (e2 := t3.e) (p2.trans p3) ?_⟩
      have k := h3 (acc ++ [yd]) (vs ++ [u]) (dpsApp h2 (.cons hu .nil))
      exact ⟨g7.le, g7.lr, g7.al, ((k.perm (List.Perm.swap _ _ _)).tail)⟩
  · have e : i = ds.length := by omega
    subst e
    refine .inl ⟨w2, fin acc R ρ' D H' iv (p1.trans p') ?_⟩
    have b := g1.unblk (A := [(IT.o (OL acc), some (.ref D))]) p' g'
    have b2 : Sat X.K ⟨s1.e, R⟩ σ ρ' ((IT.o (OL acc), some (.ref D)) :: (T0 ++ T)) H' := b
    have b3 : Sat X.K ⟨s1.e, R⟩ σ ρ' (T0 ++ ((IT.o (OL acc), some (.ref D)) :: T)) H' := b2.tperm List.perm_middle.symm
    exact b3.tdrops
/-- a comprehension: its list is kept for good -/
theorem ze_lcD {scope : Scope} {own : List (Str × Nat)} {vs : List Nat} {acc0 : List PyData} {R0 : List Own} (hi : ZI X tg iter s ds s1) (Iv : Nat → List PyData → List Own → Prop) (h0 : Iv 0 [] s1.R)
    (turn : ∀ i x acc R, ds[i]? = some x → Iv i acc R → ∃ t' Rt, (∀ z, ZG (bl X scope z) tg vs x ⟨wipeE s1.e vs, R⟩ t') ∧ (∀ z, ZTs (bl X scope z) ifs t' Rt) ∧ (∀ t2, Rt false t2 → Iv (i + 1) acc t2.R) ∧
      ∀ t2, Rt true t2 → ∃ y t3, (∀ z, ZE (bl X scope z) elt t2 (.d y) t3) ∧ Iv (i + 1) (acc ++ [y]) t3.R)
    (done : ∀ acc R, Iv ds.length acc R → acc = acc0 ∧ R = R0) (hsz : ds.length < sizeLine) (hN : X.N.Nodup) (ok : BlkOk X.N X.env.scope scope own) (hvs : own.map (·.2) = vs := by rfl) (hc : X.calm = true := by rfl) (hs : ∀ x, foldedSetIterable iter X.env x = pure x := by intro _; rfl) :
    ZE X (.ListComp elt [⟨tg, iter, ifs, 0⟩] scope pos) s (.d (.list acc0)) ⟨s1.e, R0⟩ := by
  obtain ⟨te, ⟨h, _⟩, run⟩ := lc_run (pos := pos) hvs Iv h0 turn hsz hi hN hc ok hs
  refine PE.imp h fun σ H Q ⟨T, ρ, g, k⟩ => run T σ ρ H Q g fun acc R ρ' D H' iv p g' => ?_
  obtain ⟨e1, e2⟩ := done acc R iv
  subst e1 e2
  obtain ⟨F, f⟩ := g'.ok.fz
  exact k _ ρ' H' p trivial ⟨g'.le, g'.lr, g'.al, f.freeze⟩
/-- .. or of its own -/
theorem ze_lcO {scope : Scope} {own : List (Str × Nat)} {vs : List Nat} {acc0 : List PyData} {R0 : List Own} (hi : ZI X tg iter s ds s1) (Iv : Nat → List PyData → List Own → Prop) (h0 : Iv 0 [] s1.R)
    (turn : ∀ i x acc R, ds[i]? = some x → Iv i acc R → ∃ t' Rt, (∀ z, ZG (bl X scope z) tg vs x ⟨wipeE s1.e vs, R⟩ t') ∧ (∀ z, ZTs (bl X scope z) ifs t' Rt) ∧ (∀ t2, Rt false t2 → Iv (i + 1) acc t2.R) ∧
      ∀ t2, Rt true t2 → ∃ y t3, (∀ z, ZE (bl X scope z) elt t2 (.d y) t3) ∧ Iv (i + 1) (acc ++ [y]) t3.R)
    (done : ∀ acc R, Iv ds.length acc R → acc = acc0 ∧ R = R0) (hsz : ds.length < sizeLine) (hN : X.N.Nodup) (ok : BlkOk X.N X.env.scope scope own) (hvs : own.map (·.2) = vs := by rfl) (hc : X.calm = true := by rfl) (hs : ∀ x, foldedSetIterable iter X.env x = pure x := by intro _; rfl) :
    ZE X (.ListComp elt [⟨tg, iter, ifs, 0⟩] scope pos) s (.r R0.length) ⟨s1.e, R0 ++ [OL acc0]⟩ := by
  obtain ⟨te, ⟨h, _⟩, run⟩ := lc_run (pos := pos) hvs Iv h0 turn hsz hi hN hc ok hs
  refine PE.imp h fun σ H Q ⟨T, ρ, g, k⟩ => run T σ ρ H Q g fun acc R ρ' D H' iv p g' => ?_
  obtain ⟨e1, e2⟩ := done acc R iv
  subst e1 e2
  refine k _ (ρ' ++ [.ref D]) H' (p.trans (List.prefix_append _ _)) (Sat.newVR (s := ⟨s1.e, R⟩) g') (Sat.tun ?_)
  exact Sat.push (s := ⟨s1.e, R⟩) g'.ok g'.le g'.lr g'.al
end

/-! ### functions -/
def ie (ds : List IT) (vs : List V) : List En := List.zipWith (fun i v => (i, some v)) ds vs
def sl : List IT → Nat → List SD
  | [], _ => []
  | .o _ :: r, n => .r n :: sl r (n + 1)
  | .d x :: r, n => .d x :: sl r n
  | .un :: r, n => .un :: sl r n
def objs : List IT → List Own
  | [] => []
  | .o P :: r => P :: objs r
  | _ :: r => objs r
def vals : List IT → List V → List V
  | .o _ :: r, v :: vs => v :: vals r vs
  | _ :: r, _ :: vs => vals r vs
  | _, _ => []
def back : List IT → List Own → List IT
  | [], _ => []
  | .o _ :: r, P :: Os => .o P :: back r Os
  | .o _ :: r, [] => .un :: back r []
  | _ :: r, Os => .un :: back r Os
/-- a def's promise: what is asked of the arguments; result and objects behind it -/
def spZ (K : PySem.W.Frag) (Pre : List IT → Prop) (Rel : List IT → IT → List Own → Prop) : Sp := fun vs H Q _ => ∃ ds T, Pre ds ∧ ds.length = vs.length ∧ OK K (ie ds vs ++ T) H ∧
  ∀ z Os v H', Rel ds z Os → OK K ((z, some v) :: (ie (back ds Os) vs ++ T)) H' → Q v H'
section
variable {K : PySem.W.Frag} {H : Hp}
theorem vals_len : ∀ {ds : List IT} {vs : List V}, ds.length = vs.length → (vals ds vs).length = (objs ds).length
  | [], [], _ => rfl
  | .o P :: r, v :: vs, h => by simp [vals, objs, vals_len (ds := r) (vs := vs) (by simpa using h)]
  | .d x :: r, v :: vs, h => by simp [vals, objs, vals_len (ds := r) (vs := vs) (by simpa using h)]
  | .un :: r, v :: vs, h => by simp [vals, objs, vals_len (ds := r) (vs := vs) (by simpa using h)]
  | [], _ :: _, h => by simp at h
  | _ :: _, [], h => by simp at h
theorem sl_len : ∀ {ds : List IT} {n : Nat}, (sl ds n).length = ds.length
  | [], _ => rfl
  | .o P :: r, n => by simp [sl, sl_len (ds := r)]
  | .d x :: r, n => by simp [sl, sl_len (ds := r)]
  | .un :: r, n => by simp [sl, sl_len (ds := r)]
theorem enter : ∀ {ds : List IT} {vs : List V} {n : Nat} {T : List En}, ds.length = vs.length → OK K (ie ds vs ++ T) H → OK K (T ++ (ES (sl ds n) (vs.map some) ++ RS (objs ds) (vals ds vs))) H
  | [], [], n, T, _, h => by
    show OK K (T ++ []) H
    rw [List.append_nil]
    exact h
  | .o P :: r, v :: vs, n, T, hl, h => by
    have h1 : OK K (ie r vs ++ ((IT.o P, some v) :: T)) H := OK.perm List.perm_middle.symm h
    have h2 := enter (ds := r) (vs := vs) (n := n + 1) (T := (IT.o P, some v) :: T) (by simpa using hl) h1
    have h3 : OK K ((IT.un, some v) :: ((IT.o P, some v) :: (T ++ (ES (sl r (n + 1)) (vs.map some) ++ RS (objs r) (vals r vs))))) H := OK.un h2
    refine h3.perm ?_
    show ([(IT.un, some v)] ++ ([(IT.o P, some v)] ++ (T ++ (ES (sl r (n + 1)) (vs.map some) ++ RS (objs r) (vals r vs))))).Perm (T ++ ([(IT.un, some v)] ++ ES (sl r (n + 1)) (vs.map some) ++ ([(IT.o P, some v)] ++ RS (objs r) (vals r vs))))
    simp only [List.append_assoc]
    refine ((((cas _ _ _).append_left _).trans (cas _ _ _)).trans (List.Perm.append_left _ ?_))
    exact (cas _ _ _).append_left _
  | .d x :: r, v :: vs, n, T, hl, h => by
    have h1 : OK K (ie r vs ++ ((IT.d x, some v) :: T)) H := OK.perm List.perm_middle.symm h
    have h2 := enter (ds := r) (vs := vs) (n := n) (T := (IT.d x, some v) :: T) (by simpa using hl) h1
    exact OK.perm List.perm_middle.symm h2
  | .un :: r, v :: vs, n, T, hl, h => by
    have h1 : OK K (ie r vs ++ ((IT.un, some v) :: T)) H := OK.perm List.perm_middle.symm h
    have h2 := enter (ds := r) (vs := vs) (n := n) (T := (IT.un, some v) :: T) (by simpa using hl) h1
    exact OK.perm List.perm_middle.symm h2
  | [], _ :: _, _, _, h, _ => by simp at h
  | _ :: _, [], _, _, h, _ => by simp at h
theorem leave : ∀ {ds : List IT} {vs : List V} {R : List Own} {T : List En}, ds.length = vs.length → R.length = (objs ds).length → OK K (T ++ RS R (vals ds vs)) H → OK K (ie (back ds R) vs ++ T) H
  | [], [], R, T, _, hr, h => by
    cases R with
    | nil => rw [show T ++ RS [] (vals [] []) = T from List.append_nil T] at h; exact h
    | cons => simp [objs] at hr
  | .o P :: r, v :: vs, P' :: R, T, hl, hr, h => by
    have h1 : OK K (((IT.o P', some v) :: T) ++ RS R (vals r vs)) H := by
      refine OK.perm ?_ h
      exact List.perm_middle
    have h2 := leave (ds := r) (vs := vs) (R := R) (T := (IT.o P', some v) :: T) (by simpa using hl) (by simpa [objs] using hr) h1
    exact OK.perm List.perm_middle h2
  | .o P :: r, v :: vs, [], T, hl, hr, h => by simp [objs] at hr
  | .d x :: r, v :: vs, R, T, hl, hr, h => by
    have h2 := leave (ds := r) (vs := vs) (R := R) (T := T) (by simpa using hl) (by simpa [objs] using hr) h
    cases R <;> exact h2.un
  | .un :: r, v :: vs, R, T, hl, hr, h => by
    have h2 := leave (ds := r) (vs := vs) (R := R) (T := T) (by simpa using hl) (by simpa [objs] using hr) h
    cases R <;> exact h2.un
  | [], _ :: _, _, _, h, _, _ => by simp at h
  | _ :: _, [], _, _, h, _, _ => by simp at h
theorem sl_ref : ∀ {ds : List IT} {vs : List V} {n i j : Nat}, ds.length = vs.length → (sl ds n)[i]? = some (SD.r j) → n ≤ j ∧ ∃ v, vs[i]? = some v ∧ (vals ds vs)[j - n]? = some v
  | [], [], _, i, _, _, e => by simp [sl] at e
  | .o P :: r, v :: vs, n, 0, j, hl, e => by
    simp [sl] at e
    subst e
    exact ⟨Nat.le_refl _, v, rfl, by simp [vals]⟩
  | .o P :: r, v :: vs, n, i + 1, j, hl, e => by
    obtain ⟨h0, w, h1, h2⟩ := sl_ref (ds := r) (vs := vs) (n := n + 1) (i := i) (j := j) (by simpa using hl) (by simpa [sl] using e)
    refine ⟨by omega, w, by simpa using h1, ?_⟩
    rw [show j - n = (j - (n + 1)) + 1 by omega]
    simpa [vals] using h2
  | .d x :: r, v :: vs, n, 0, j, hl, e => by simp [sl] at e
  | .d x :: r, v :: vs, n, i + 1, j, hl, e => by
    obtain ⟨h0, w, h1, h2⟩ := sl_ref (ds := r) (vs := vs) (n := n) (i := i) (j := j) (by simpa using hl) (by simpa [sl] using e)
    exact ⟨h0, w, by simpa using h1, by simpa [vals] using h2⟩
  | .un :: r, v :: vs, n, 0, j, hl, e => by simp [sl] at e
  | .un :: r, v :: vs, n, i + 1, j, hl, e => by
    obtain ⟨h0, w, h1, h2⟩ := sl_ref (ds := r) (vs := vs) (n := n) (i := i) (j := j) (by simpa using hl) (by simpa [sl] using e)
    exact ⟨h0, w, by simpa using h1, by simpa [vals] using h2⟩
  | [], _ :: _, _, _, _, h, _ => by simp at h
  | _ :: _, [], _, _, _, h, _ => by simp at h
theorem es_un : ∀ (e : List SD) (vs : List V) (n : Nat) {T : List En}, e.length = vs.length → OK K (T ++ ES e (vs.map some)) H → OK K (T ++ ES (e ++ List.replicate n .un) (vs.map some ++ List.replicate n none)) H := fun e vs n T hl h => by
  have q : ES (e ++ List.replicate n .un) (vs.map some ++ List.replicate n none) = ES e (vs.map some) ++ List.replicate n (IT.un, none) := by
    unfold ES
    rw [List.zipWith_append (by rw [List.length_map]; exact hl)]
    congr 1
    exact List.zipWith_replicate' ..
  rw [q]
  induction n with
  | zero => rw [List.replicate_zero, List.append_nil]; exact h
  | succ n ih =>
    have k := OK.un (v := none) (ih (by unfold ES; rw [List.zipWith_append (by rw [List.length_map]; exact hl)]; congr 1; exact List.zipWith_replicate' ..))
    refine k.perm ?_
    rw [List.replicate_succ, ← List.append_assoc, ← List.append_assoc]
    exact List.perm_middle.symm
/-- what a return hands back -/
def retOK (b : Nat) (ds : List IT) (Rel : List IT → IT → List Own → Prop) (r : SD) (t : S) : Prop := match r with
  | .d x => Rel ds (.d x) (t.R.take b)
  | .r j => b ≤ j ∧ ((∃ P, t.R[j]? = some P ∧ Rel ds (.o P) (t.R.take b)) ∨ ∃ es, t.R[j]? = some (OL es) ∧ Rel ds (.d (.list es)) (t.R.take b))
  | .un => False
def inSt (ds : List IT) (n : Nat) : S := ⟨sl ds 0 ++ List.replicate n .un, objs ds⟩
def inPo (ds : List IT) (Rel : List IT → IT → List Own → Prop) : Po := { b := (objs ds).length, nx := fun t => Rel ds (.d .none) (t.R.take (objs ds).length), rt := retOK (objs ds).length ds Rel }
theorem take_set {α : Type} {l : List α} {b j : Nat} {x : α} (h : b ≤ j) : (l.set j x).take b = l.take b := by
  apply List.ext_getElem?
  intro i
  by_cases hi : i < b
  · rw [List.getElem?_take_of_lt hi, List.getElem?_take_of_lt hi, List.getElem?_set_ne (by omega)]
  · rw [List.getElem?_eq_none (by rw [List.length_take]; omega), List.getElem?_eq_none (by rw [List.length_take]; omega)]
theorem run_body {Rel : List IT → IT → List Own → Prop} {ds : List IT} {T : List En} {vs : List V} {Q : VK} {N : List Str} {X : Cx} {body : List Stmt} (hK : X.K = K) (hl : ds.length = vs.length) (ok : OK K (ie ds vs ++ T) H) (q : ∀ z Os v H', Rel ds z Os → OK K ((z, some v) :: (ie (back ds Os) vs ++ T)) H' → Q v H')
    (h : ZSs X body (inSt ds (N.length - vs.length)) (inPo ds Rel)) : ∃ t, PSs X body t ∧ t { nx := fun _ H' => Q .non H', rt := Q } (start N vs) H := by
  refine ⟨_, h, inSt ds (N.length - vs.length), T, vals ds vs, rfl, Nat.le_of_eq (vals_len hl).symm, ?_, ?_⟩
  · refine ⟨?_, (vals_len hl).symm, fun i j e => ?_, ?_⟩
    · show (sl ds 0 ++ List.replicate _ _).length = (vs.map some ++ List.replicate _ none).length
      simp [sl_len, hl]
    · have e' : (sl ds 0 ++ List.replicate (N.length - vs.length) SD.un)[i]? = some (SD.r j) := e
      by_cases hi : i < (sl ds 0).length
      · rw [List.getElem?_append_left hi] at e'
        obtain ⟨_, v, h1, h2⟩ := sl_ref hl e'
        refine ⟨v, ?_, by simpa using h2⟩
        show (vs.map some ++ _)[i]? = _
        rw [List.getElem?_append_left (by rw [List.length_map, ← hl, ← sl_len (n := 0)]; exact hi), List.getElem?_map, h1]
        rfl
      · rw [List.getElem?_append_right (by omega)] at e'
        rw [List.getElem?_replicate] at e'
        split at e' <;> cases e'
    · rw [hK]
      have k := enter (n := 0) hl ok
      have k2 : OK K ((RS (objs ds) (vals ds vs) ++ T) ++ ES (sl ds 0) (vs.map some)) H := by
        refine k.perm ?_
        rw [← List.append_assoc]
        refine (List.perm_append_comm).trans ?_
        rw [← List.append_assoc]
      have k3 := es_un (sl ds 0) vs (N.length - vs.length) (T := RS (objs ds) (vals ds vs) ++ T) (by rw [sl_len]; exact hl) k2
      refine k3.perm ?_
      show (RS (objs ds) (vals ds vs) ++ T ++ ES (sl ds 0 ++ List.replicate (N.length - vs.length) SD.un) (vs.map some ++ List.replicate (N.length - vs.length) none)).Perm (T ++ (ES (sl ds 0 ++ List.replicate (N.length - vs.length) SD.un) (vs.map some ++ List.replicate (N.length - vs.length) none) ++ RS (objs ds) (vals ds vs)))
      rw [List.append_assoc]
      refine (List.perm_append_comm).trans ?_
      rw [List.append_assoc]
  · have lv := vals_len (ds := ds) (vs := vs) hl
    have tk : (vals ds vs).take (inPo ds Rel).b = vals ds vs := List.take_of_length_le (by rw [lv]; exact Nat.le_refl _)
    rw [tk, hK]
    -- out of the end's state: the objects of the arguments
    have out : ∀ {s' : S} {σ' : L2.St} {ρ' : List V} {H' : Hp} {A : List En}, vals ds vs <+: ρ' → Sat K s' σ' ρ' (A ++ T) H' → OK K (A ++ (ie (back ds (s'.R.take (objs ds).length)) vs ++ T)) H' := fun {s' σ' ρ' H' A} p g => by
      obtain ⟨m, rfl⟩ := p
      have lr := g.lr
      rw [List.length_append] at lr
      have q1 : RS s'.R (vals ds vs ++ m) = RS (s'.R.take (objs ds).length) (vals ds vs) ++ RS (s'.R.drop (objs ds).length) m := by
        unfold RS
        rw [← List.zipWith_append (by rw [List.length_take, lv]; omega), List.take_append_drop]
      have k := g.ok
      rw [q1] at k
      have k2 : OK K ((ES s'.e σ' ++ RS (s'.R.drop (objs ds).length) m) ++ ((A ++ T) ++ RS (s'.R.take (objs ds).length) (vals ds vs))) H' := by
        refine k.perm ?_
        simp only [List.append_assoc]
        refine ((cas T _ _).append_left A).trans ?_
        refine (cas A _ _).trans ?_
        refine List.Perm.append_left _ ?_
        refine ((List.Perm.append_left T (List.perm_append_comm)).append_left A).trans ?_
        refine ((cas T _ _).append_left A).trans ?_
        exact cas A _ _
      have k3 := leave hl (by rw [List.length_take]; omega) k2.right
      exact k3.perm (cas _ _ _)
    refine ⟨fun s' σ' ρ' H' a p g => ?_, fun r s' σ' ρ' H' v a p vr g => ?_, fun _ _ _ _ z => z.elim, fun _ _ _ _ z => z.elim⟩
    · exact q _ _ .non H' a (OK.flat (show flat .non .none from trivial) (out (A := []) p g))
    · cases r with
      | un => exact a.elim
      | d x => exact q _ _ v H' a (out (A := [(IT.d x, some v)]) p g)
      | r j =>
        obtain ⟨hb, a⟩ := a
        rcases a with ⟨P, hP, a⟩ | ⟨es, hP, a⟩
        · obtain ⟨w, e2, ok2, _⟩ := g.obj hP
          have ev : w = v := Option.some.inj (e2.symm.trans vr)
          subst ev
          -- the object's own place is given up
          have g3 : Sat K ⟨s'.e, s'.R.set j gone⟩ σ' ρ' ([(IT.o P, some w)] ++ T) H' := by
            refine ZE.frz.back2 (P := P) (T2 := [(IT.o P, some w)] ++ T) g hP e2 ?_
            have k := (OK.perm (List.Perm.swap _ _ _) ok2).tail
            obtain ⟨F2, L, e1, gg⟩ := k
            have c := gg.oCons (v := w) (P := gone) (fp := []) rfl List.nodup_nil (fun a ha => by cases ha) (fun a ha => by cases ha)
            exact ⟨F2, (((IT.o gone, some w), []) :: L), by rw [List.map_cons, e1]; rfl, c⟩
          refine q _ _ w H' a ?_
          have k := out p g3
          rw [show (⟨s'.e, s'.R.set j gone⟩ : S).R = s'.R.set j gone from rfl, take_set hb] at k
          exact k
        · obtain ⟨w, e2, ok2, _⟩ := g.obj hP
          have ev : w = v := Option.some.inj (e2.symm.trans vr)
          subst ev
          obtain ⟨F, f⟩ := ok2.fz
          have g3 : Sat K ⟨s'.e, s'.R.set j gone⟩ σ' ρ' ([(IT.d (.list es), some w)] ++ T) H' := by
            refine ZE.frz.back2 (P := OL es) (T2 := [(IT.d (.list es), some w)] ++ T) g hP e2 ?_
            have k := (OK.perm (List.Perm.swap _ _ _) f.freeze).tail
            obtain ⟨F2, L, e1, gg⟩ := k
            have c := gg.oCons (v := w) (P := gone) (fp := []) rfl List.nodup_nil (fun a ha => by cases ha) (fun a ha => by cases ha)
            exact ⟨F2, (((IT.o gone, some w), []) :: L), by rw [List.map_cons, e1]; rfl, c⟩
          refine q _ _ w H' a ?_
          have k := out p g3
          rw [show (⟨s'.e, s'.R.set j gone⟩ : S).R = s'.R.set j gone from rfl, take_set hb] at k
          exact k
end
end Z

namespace Z
open PySem L2 PyProof.Rows

abbrev Pre := List IT → Prop
abbrev Rel := List IT → IT → List Own → Prop
/-- a def that may be called by its name and raises nothing -/
structure Cal (P : Program) (w : World) (K : PySem.W.Frag) (mg : Str → Option Value) (base : Heap) (k : Nat) (x : Str) (pre : Pre) (rel : Rel) : Prop where
  ex : ∃ (f : Addr) (fd : FuncData) (ps : List Str), FnOk P w K mg base CX0 k f fd ps (spZ K pre rel) ∧ mg x = some (.ref f) ∧ PySem.W.keepIn K (.ref f) = true ∧ Binds K fd ps []
/-- the text of a def, by its name: what the top has left -/
structure Dfn (K : PySem.W.Frag) (mg : Str → Option Value) (x : Str) (st : Stmt) (ps : List Str) : Prop where
  ex : ∃ (f : Addr) (fd : FuncData), Fun K x x st f fd ∧ mg x = some (.ref f) ∧ Binds K fd ps []
section
variable {P : Program} {w : World} {K : PySem.W.Frag} {mg : Str → Option Value} {base : Heap} {x : Str} {st : Stmt} {ps N : List Str} {k : Nat} {pre : Pre} {rel : Rel}
theorem Cal.mono {j : Nat} (c : Cal P w K mg base k x pre rel) (h : k ≤ j) : Cal P w K mg base j x pre rel := let ⟨f, fd, ps, F, r⟩ := c.ex; ⟨f, fd, ps, F.mono h, r⟩
theorem Cal.imp {pre' : Pre} {rel' : Rel} (c : Cal P w K mg base k x pre rel) (h1 : ∀ ds, pre' ds → pre ds) (h2 : ∀ ds z Os, pre' ds → rel ds z Os → rel' ds z Os) : Cal P w K mg base k x pre' rel' :=
  let ⟨f, fd, ps, F, r⟩ := c.ex; ⟨f, fd, ps, F.imp fun vs H Q E ⟨ds, T, a, b, c, d⟩ => ⟨ds, T, h1 _ a, b, c, fun z Os v H' q => d z Os v H' (h2 _ _ _ a q)⟩, r⟩
/-- THE RULE for a def that raises nothing -/
theorem zfun (D : Dfn K mg x st ps) (S : FnScope N ps (defScope st)) (hlen : ∀ ds, pre ds → ds.length = ps.length)
    (body : ∀ (f : Addr) (cdv : Value) (A : Around) (outer : List Env) (s : Shared) (H : Hp) (E : XK) (ds : List IT), pre ds → Room k (A.deeper (envOfC x (defScope st) s.heap.objs.size f cdv)) →
      ZSs (cxOf CX0 P w K mg base N x (defScope st) f cdv A outer s H E).nox (defBody st) (inSt ds (N.length - ps.length)) (inPo ds rel)) : Cal P w K mg base (k + 1) x pre rel := by
  obtain ⟨f, fd, F, hm, hb⟩ := D.ex
  refine ⟨f, fd, ps, F.ok S (fun vs H Q E h => ?_) (fun cdv A outer s H vs Q E hr h => ?_), hm, F.kp, hb⟩
  · obtain ⟨ds, T, a, b, _⟩ := h
    rw [← b]
    exact hlen ds a
  · obtain ⟨ds, T, a, b, c, d⟩ := h
    refine run_body (X := (cxOf CX0 P w K mg base N x (defScope st) f cdv A outer s H E).nox) (N := N) rfl b c d ?_
    have e : vs.length = ps.length := by rw [← b]; exact hlen ds a
    rw [e]
    exact body f cdv A outer s H E ds a hr
end
section
variable {X : Cx} {e : Expr} {es : List Expr} {s s1 s2 : S} {rs : List SD} {pos p : Pos} {x : Str} {k j : Nat} {pre : Pre} {rel : Rel} {ds as bs : List PyData} {zd : PyData}
theorem tcall (c : Cal X.prog X.w X.K X.mg X.base k x pre rel) (hr : Room j X.A) (hk : k ≤ j) (h : Cl X x e es pos) (ha : ZA X (e :: es) s rs s1) (hdb : (x == ("__debug__" : Str)) = false := by decide) :
    PE X (.Call (.Name x p) (e :: es) [] pos) (tCall (spZ X.K pre rel) [] E0 (tA X.K s rs s1)) := by
  obtain ⟨f, fd, ps, F, hm, kp, b⟩ := c.ex
  exact pe_call F (hr.mono hk) h.1 hm kp b .nil pass0 ha hdb h.2.1 h.2.2
theorem its_ie : ∀ {ds : List PyData} {vs : List V}, its (ds.map .d) vs = ie (ds.map .d) vs
  | [], _ => rfl
  | _ :: _, [] => rfl
  | d :: ds, v :: vs => by
    show _ :: its (ds.map .d) vs = _ :: ie (ds.map .d) vs
    rw [its_ie]; rfl
/-- a call, of data alone, whose answer is a datum -/
theorem ze_call (c : Cal X.prog X.w X.K X.mg X.base k x pre rel) (ha : ZA X (e :: es) s (ds.map .d) s1) (hp : pre (ds.map .d)) (hq : ∀ z Os, rel (ds.map .d) z Os → z = .d zd) (hr : Room j X.A) (hk : k ≤ j := by omega) (h : Cl X x e es pos := by exact ⟨rfl, rfl, rfl⟩)
    (hdb : (x == ("__debug__" : Str)) = false := by decide) : ZE X (.Call (.Name x p) (e :: es) [] pos) s (.d zd) s1 := by
  refine PE.imp (tcall c hr hk h ha hdb) fun σ H Q ⟨T, ρ, g, q⟩ => ⟨T, ρ, g, fun vs ρ' H' p vr g' => ?_⟩
  show spZ X.K pre rel (vs ++ []) H' Q E0
  rw [List.append_nil]
  have hl : (ds.map IT.d).length = vs.length := by have := vr.1; simpa using this
  refine ⟨ds.map .d, T ++ (ES s1.e σ ++ RS s1.R ρ'), hp, hl, ?_, fun z Os v H2 hz ok => ?_⟩
  · have k := g'.ok
    rw [its_ie, List.append_assoc] at k
    exact k
  · rw [hq z Os hz] at ok
    refine q v ρ' H2 p trivial (g'.of ?_)
    exact ((OK.perm (List.perm_append_comm) (show OK X.K (([(IT.d zd, some v)] ++ ie (back (ds.map IT.d) Os) vs) ++ (T ++ (ES s1.e σ ++ RS s1.R ρ'))) H2 from by rw [List.append_assoc]; exact ok)).perm (by
      refine (List.perm_append_comm).trans ?_
      rw [List.append_assoc]
      exact cas _ _ _)).right
/-- .. an object of the store among the arguments, at j; the answer a datum -/
theorem ze_call1 {o : Nat} {O O' : Own} (c : Cal X.prog X.w X.K X.mg X.base k x pre rel) (ha : ZA X (e :: es) s (as.map .d ++ .r o :: bs.map .d) s1) (ho : s1.R[o]? = some O) (hp : pre (as.map .d ++ .o O :: bs.map .d))
    (hq : ∀ z Os, rel (as.map .d ++ .o O :: bs.map .d) z Os → z = .d zd ∧ ∃ r, Os = O' :: r) (hr : Room j X.A) (hk : k ≤ j := by omega) (h : Cl X x e es pos := by exact ⟨rfl, rfl, rfl⟩)
    (hdb : (x == ("__debug__" : Str)) = false := by decide) : ZE X (.Call (.Name x p) (e :: es) [] pos) s (.d zd) ⟨s1.e, s1.R.set o O'⟩ := by
  refine PE.imp (tcall c hr hk h ha hdb) fun σ H Q ⟨T, ρ, g, q⟩ => ⟨T, ρ, g, fun vs ρ' H' p vr g' => ?_⟩
  show spZ X.K pre rel (vs ++ []) H' Q E0
  rw [List.append_nil]
  have hl0 : as.length + (bs.length + 1) = vs.length := by have := vr.1; simpa using this
  obtain ⟨va, v0, vb, e1, e2, e3⟩ : ∃ va v0 vb, vs = va ++ v0 :: vb ∧ va.length = as.length ∧ vb.length = bs.length := by
    refine ⟨vs.take as.length, vs[as.length]'(by omega), vs.drop (as.length + 1), ?_, by rw [List.length_take]; omega, by rw [List.length_drop]; omega⟩
    rw [List.getElem_cons_drop, List.take_append_drop]
  subst e1
  have hv : ρ'[o]? = some v0 := vr.2 as.length (.r o) v0 (by rw [List.getElem?_append_right (by simp)]; simp) (by rw [List.getElem?_append_right (by omega)]; simp [e2])
  have q1 : its (as.map .d ++ .r o :: bs.map .d) (va ++ v0 :: vb) = its (as.map .d) va ++ (IT.un, some v0) :: its (bs.map .d) vb := by
    unfold its
    rw [List.zipWith_append (by simp [e2])]
    rfl
  have q2 : ie (as.map .d ++ .o O :: bs.map .d) (va ++ v0 :: vb) = its (as.map .d) va ++ (IT.o O, some v0) :: its (bs.map .d) vb := by
    rw [its_ie, its_ie]
    unfold ie
    rw [List.zipWith_append (by simp [e2])]
    rfl
  rw [q1] at g'
  obtain ⟨w, h2, ok, bk⟩ := g'.obj ho
  have ew : w = v0 := Option.some.inj (h2.symm.trans hv)
  subst ew
  have hl : (as.map IT.d ++ IT.o O :: bs.map IT.d).length = (va ++ w :: vb).length := by simp [e2, e3]
  refine ⟨as.map .d ++ .o O :: bs.map .d, T ++ (ES s1.e σ ++ (RS s1.R ρ').set o (IT.un, some w)), hp, hl, ?_, fun z Os v H2 hz ok2 => ?_⟩
  · rw [q2]
    have k : OK X.K ((IT.un, some w) :: ((IT.o O, some w) :: ((its (as.map .d) va ++ its (bs.map .d) vb) ++ (T ++ (ES s1.e σ ++ (RS s1.R ρ').set o (IT.un, some w)))))) H' := by
      refine ok.perm ?_
      refine (List.Perm.swap _ _ _).symm.trans ?_ |>.symm
      refine List.Perm.cons _ ?_
      show ([(IT.un, some w)] ++ ((its (as.map .d) va ++ its (bs.map .d) vb) ++ (T ++ (ES s1.e σ ++ (RS s1.R ρ').set o (IT.un, some w))))).Perm (its (as.map .d) va ++ ([(IT.un, some w)] ++ its (bs.map .d) vb) ++ T ++ (ES s1.e σ ++ (RS s1.R ρ').set o (IT.un, some w)))
      simp only [List.append_assoc]
      exact cas _ _ _
    refine k.tail.perm ?_
    show ([(IT.o O, some w)] ++ ((its (as.map .d) va ++ its (bs.map .d) vb) ++ (T ++ (ES s1.e σ ++ (RS s1.R ρ').set o (IT.un, some w))))).Perm (its (as.map .d) va ++ ([(IT.o O, some w)] ++ its (bs.map .d) vb) ++ (T ++ (ES s1.e σ ++ (RS s1.R ρ').set o (IT.un, some w))))
    simp only [List.append_assoc]
    exact cas _ _ _
  · obtain ⟨z1, r, z2⟩ := hq z Os hz
    subst z1 z2
    have q3 : ∀ (as : List PyData) (va : List V) (Os : List Own), va.length = as.length → ie (back (as.map IT.d ++ IT.o O :: bs.map IT.d) (O' :: Os)) (va ++ w :: vb) = va.map (fun v => (IT.un, some v)) ++ (IT.o O', some w) :: ie (back (bs.map IT.d) Os) vb := by
      intro as
      induction as with
      | nil => intro va Os h; cases va with
        | nil => rfl
        | cons => simp at h
      | cons a as ih => intro va Os h; cases va with
        | nil => simp at h
        | cons v va =>
          show (IT.un, some v) :: ie (back (as.map IT.d ++ IT.o O :: bs.map IT.d) (O' :: Os)) (va ++ w :: vb) = _
          rw [ih va Os (by simpa using h)]
          rfl
    rw [q3 as va r e2] at ok2
    refine q v ρ' H2 p trivial ?_
    have fin : OK X.K ((IT.o O', some w) :: (((IT.d zd, some v) :: (its (as.map .d) va ++ (IT.un, some w) :: its (bs.map .d) vb ++ T)) ++ (ES s1.e σ ++ (RS s1.R ρ').set o (IT.un, some w)))) H2 → Sat X.K ⟨s1.e, s1.R.set o O'⟩ σ ρ' ((IT.d zd, some v) :: (its (as.map .d) va ++ (IT.un, some w) :: its (bs.map .d) vb ++ T)) H2 := fun h =>
      ZE.frz.back2 (T2 := (IT.d zd, some v) :: (its (as.map .d) va ++ (IT.un, some w) :: its (bs.map .d) vb ++ T)) g' ho hv h
    have fin2 : OK X.K ((IT.o O', some w) :: (((IT.d zd, some v) :: T) ++ (ES s1.e σ ++ (RS s1.R ρ').set o (IT.un, some w)))) H2 → Sat X.K ⟨s1.e, s1.R.set o O'⟩ σ ρ' ((IT.d zd, some v) :: T) H2 := fun h =>
      ZE.frz.back2 (T2 := (IT.d zd, some v) :: T) g' ho hv h
    refine fin2 ?_
    have k : OK X.K ((va.map (fun v => (IT.un, some v)) ++ ie (back (bs.map IT.d) r) vb) ++ ((IT.o O', some w) :: (((IT.d zd, some v) :: T) ++ (ES s1.e σ ++ (RS s1.R ρ').set o (IT.un, some w))))) H2 := by
      refine ok2.perm ?_
      show ([(IT.d zd, some v)] ++ (va.map (fun v => (IT.un, some v)) ++ ([(IT.o O', some w)] ++ ie (back (bs.map IT.d) r) vb) ++ (T ++ (ES s1.e σ ++ (RS s1.R ρ').set o (IT.un, some w))))).Perm ((va.map (fun v => (IT.un, some v)) ++ ie (back (bs.map IT.d) r) vb) ++ ([(IT.o O', some w)] ++ ([(IT.d zd, some v)] ++ T ++ (ES s1.e σ ++ (RS s1.R ρ').set o (IT.un, some w)))))
      simp only [List.append_assoc]
      refine (cas _ _ _).trans ?_
      refine List.Perm.append_left _ ?_
      refine (((cas _ (ie (back (bs.map IT.d) r) vb) _).append_left _).trans (cas _ _ _)).trans ?_
      refine List.Perm.append_left _ ?_
      exact cas _ _ _
    exact k.right
end
end Z

namespace Z
open PySem L2 PyProof.Rows

/-! ### promises by a type of arguments -/
section
variable {A : Type} (args : A → List IT) (ask : A → Prop) (res : A → IT) (outs : A → List Own)
def preOf : Pre := fun ds => ∃ x, ask x ∧ ds = args x
def relOf : Rel := fun ds z Os => ∀ x, ask x → ds = args x → z = res x ∧ Os = outs x
end
/-- what a return is to be -/
def retS (b : Nat) (z0 : IT) (O0 : List Own) (r : SD) (t : S) : Prop := match r with
  | .d x => z0 = .d x ∧ t.R.take b = O0
  | .r j => b ≤ j ∧ ((∃ P, t.R[j]? = some P ∧ z0 = .o P) ∨ ∃ es, t.R[j]? = some (OL es) ∧ z0 = .d (.list es)) ∧ t.R.take b = O0
  | .un => False
def poS (b : Nat) (z0 : IT) (O0 : List Own) : Po := { b := b, nx := fun t => z0 = .d .none ∧ t.R.take b = O0, rt := retS b z0 O0 }
theorem PSs.wk {X : Cx} {sts : List Stmt} {s : S} {P Q : Po} (h : ZSs X sts s P) (hb : Q.b = P.b) (h1 : ∀ t, P.nx t → Q.nx t) (h2 : ∀ r t, P.rt r t → Q.rt r t) (h3 : ∀ t, P.bk t → Q.bk t) (h4 : ∀ t, P.ct t → Q.ct t) : ZSs X sts s Q :=
  PSs.imp h fun D σ H ⟨t, T, ρ, e1, b, g, q⟩ => ⟨t, T, ρ, e1, by rw [← hb]; exact b, g, by
    rw [hb] at q
    exact ⟨fun s' σ' ρ' H' a => q.nx s' σ' ρ' H' (h1 _ a), fun r s' σ' ρ' H' v a => q.rt r s' σ' ρ' H' v (h2 _ _ a), fun s' σ' ρ' H' a => q.bk s' σ' ρ' H' (h3 _ a), fun s' σ' ρ' H' a => q.ct s' σ' ρ' H' (h4 _ a)⟩⟩
section
variable {P : Program} {w : World} {K : PySem.W.Frag} {mg : Str → Option Value} {base : Heap} {x : Str} {st : Stmt} {ps N : List Str} {k : Nat}
variable {A : Type} {args : A → List IT} {ask : A → Prop} {res : A → IT} {outs : A → List Own}
theorem zfunS (D : Dfn K mg x st ps) (S : FnScope N ps (defScope st)) (hlen : ∀ x, (args x).length = ps.length) (inj : ∀ x y, ask x → ask y → args x = args y → res x = res y ∧ outs x = outs y)
    (body : ∀ (f : Addr) (cdv : Value) (Ar : Around) (outer : List Env) (s : Shared) (H : Hp) (E : XK) (y : A), ask y → Room k (Ar.deeper (envOfC x (defScope st) s.heap.objs.size f cdv)) →
      ZSs (cxOf CX0 P w K mg base N x (defScope st) f cdv Ar outer s H E).nox (defBody st) (inSt (args y) (N.length - ps.length)) (poS (objs (args y)).length (res y) (outs y))) : Cal P w K mg base (k + 1) x (preOf args ask) (relOf args ask res outs) := by
  refine zfun D S (fun ds ⟨y, _, e⟩ => by rw [e]; exact hlen y) fun f cdv Ar outer s H E ds hp hr => ?_
  obtain ⟨y, hy, e⟩ := hp
  subst e
  refine PSs.wk (body f cdv Ar outer s H E y hy hr) rfl (fun t ⟨h1, h2⟩ => ?_) (fun r t h => ?_) (fun _ z => z) (fun _ z => z)
  · intro z hz e
    obtain ⟨i1, i2⟩ := inj y z hy hz e
    exact ⟨by rw [← i1, h1], by rw [← i2]; exact h2⟩
  · cases r with
    | un => exact h
    | d v =>
      obtain ⟨h1, h2⟩ := h
      intro z hz e
      obtain ⟨i1, i2⟩ := inj y z hy hz e
      exact ⟨by rw [← i1, h1], by rw [← i2]; exact h2⟩
    | r j =>
      obtain ⟨hb, h, h2⟩ := h
      refine ⟨hb, ?_⟩
      rcases h with ⟨O, hO, h1⟩ | ⟨es, hO, h1⟩
      · refine .inl ⟨O, hO, fun z hz e => ?_⟩
        obtain ⟨i1, i2⟩ := inj y z hy hz e
        exact ⟨by rw [← i1, h1], by rw [← i2]; exact h2⟩
      · refine .inr ⟨es, hO, fun z hz e => ?_⟩
        obtain ⟨i1, i2⟩ := inj y z hy hz e
        exact ⟨by rw [← i1, h1], by rw [← i2]; exact h2⟩
end
def dsOf : List IT → List PyData
  | .d x :: r => x :: dsOf r
  | _ => []
def aftO : List IT → List IT
  | .o _ :: r => r
  | _ :: r => aftO r
  | [] => []
section
variable {X : Cx} {e : Expr} {es : List Expr} {s s1 s2 : S} {rs : List SD} {pos p : Pos} {x : Str} {k j : Nat} {zd : PyData} {O O' : Own}
variable {A : Type} {args : A → List IT} {ask : A → Prop} {res : A → IT} {outs : A → List Own}
theorem ze_callS (y : A) (c : Cal X.prog X.w X.K X.mg X.base k x (preOf args ask) (relOf args ask res outs)) (ha : ZA X (e :: es) s rs s1) (hy : ask y) (hz : res y = .d zd) (hr : Room j X.A) (hk : k ≤ j := by omega)
    (h1 : args y = (dsOf (args y)).map .d := by rfl) (h2 : rs = (dsOf (args y)).map .d := by rfl) (h : Cl X x e es pos := by exact ⟨rfl, rfl, rfl⟩) (hdb : (x == ("__debug__" : Str)) = false := by decide) : ZE X (.Call (.Name x p) (e :: es) [] pos) s (.d zd) s1 := by
  subst h2
  exact ze_call (ds := dsOf (args y)) c ha ⟨y, hy, h1.symm⟩ (fun z Os hq => by rw [(hq y hy h1.symm).1, hz]) hr hk h hdb
theorem ze_callS1 (y : A) {o : Nat} (c : Cal X.prog X.w X.K X.mg X.base k x (preOf args ask) (relOf args ask res outs)) (ha : ZA X (e :: es) s rs s1) (hy : ask y) (ho : s1.R[o]? = some O) (hz : res y = .d zd) (hO : outs y = [O']) (hr : Room j X.A) (hk : k ≤ j := by omega)
    (h1 : args y = (dsOf (args y)).map .d ++ .o O :: (dsOf (aftO (args y))).map .d := by rfl) (h2 : rs = (dsOf (args y)).map .d ++ .r o :: (dsOf (aftO (args y))).map .d := by rfl) (h : Cl X x e es pos := by exact ⟨rfl, rfl, rfl⟩) (hdb : (x == ("__debug__" : Str)) = false := by decide) :
    ZE X (.Call (.Name x p) (e :: es) [] pos) s (.d zd) ⟨s1.e, s1.R.set o O'⟩ := by
  subst h2
  exact ze_call1 (as := dsOf (args y)) (bs := dsOf (aftO (args y))) c ha ho ⟨y, hy, h1.symm⟩ (fun z Os hq => by
    obtain ⟨q1, q2⟩ := hq y hy h1.symm
    exact ⟨by rw [q1, hz], [], by rw [q2, hO]⟩) hr hk h hdb
end
end Z

namespace Z
open PySem L2 PyProof.Rows

/-! ### keys of dicts: tuples of ints, texts and such tuples -/
noncomputable instance decPD : DecidableEq PyData := fun a b => Classical.propDecidable (a = b)
mutual
def isAt (h : Heap) : PyData → Value → Prop
  | .int i, v => ∃ t, v = .int i t
  | .str x, v => ∃ t, v = .str x t
  | .tuple ds, v => ∃ a, v = .ref a ∧ ∃ o its n, h.get? a = some o ∧ o.cls = .type "tuple" ∧ o.data = .seq its n ∧ isAts h ds its.toList
  | _, _ => False
def isAts (h : Heap) : List PyData → List Value → Prop
  | [], [] => True
  | d :: ds, v :: vs => isAt h d v ∧ isAts h ds vs
  | _, _ => False
end
mutual
def dep : PyData → Nat
  | .tuple ds => deps ds + 1
  | _ => 0
def deps : List PyData → Nat
  | [] => 0
  | d :: ds => max (dep d) (deps ds)
end
mutual
def hashD (w : World) : PyData → Int
  | .int i => hashInt i
  | .str x => hashStr w x
  | .tuple ds => reduceHash (Builtin.Tuple.tupleHashOf (hashDs w ds))
  | _ => 0
def hashDs (w : World) : List PyData → List Int
  | [] => []
  | d :: ds => hashD w d :: hashDs w ds
end
mutual
def drw : PyData → Nat
  | .tuple ds => drws ds + 1
  | _ => 1
def drws : List PyData → Nat
  | [] => 0
  | d :: ds => drw d + drws ds
end
mutual
theorem isAt_inj {h : Heap} : ∀ {x y : PyData} {v : Value}, isAt h x v → isAt h y v → x = y
  | .int i, y, v, hx, hy => by
    obtain ⟨t, rfl⟩ := hx
    cases y with
    | int j => obtain ⟨t', e⟩ := hy; injection e with e1 _; rw [e1]
    | str => obtain ⟨t', e⟩ := hy; cases e
    | tuple => obtain ⟨a, e, _⟩ := hy; cases e
    | _ => exact hy.elim
  | .str i, y, v, hx, hy => by
    obtain ⟨t, rfl⟩ := hx
    cases y with
    | str j => obtain ⟨t', e⟩ := hy; injection e with e1 _; rw [e1]
    | int => obtain ⟨t', e⟩ := hy; cases e
    | tuple => obtain ⟨a, e, _⟩ := hy; cases e
    | _ => exact hy.elim
  | .tuple ds, y, v, hx, hy => by
    obtain ⟨a, rfl, o, its, n, h1, h2, h3, h4⟩ := hx
    cases y with
    | int j => obtain ⟨t', e⟩ := hy; cases e
    | str => obtain ⟨t', e⟩ := hy; cases e
    | tuple es =>
      obtain ⟨a', e, o', its', n', g1, g2, g3, g4⟩ := hy
      cases e
      rw [h1] at g1
      cases g1
      rw [h3] at g3
      cases g3
      rw [isAts_inj h4 g4]
    | _ => exact hy.elim
  | .none, _, _, hx, _ => hx.elim
  | .bool _, _, _, hx, _ => hx.elim
  | .list _, _, _, hx, _ => hx.elim
  | .dict _, _, _, hx, _ => hx.elim
theorem isAts_inj {h : Heap} : ∀ {x y : List PyData} {v : List Value}, isAts h x v → isAts h y v → x = y
  | [], [], [], _, _ => rfl
  | [], _ :: _, [], _, hy => hy.elim
  | _ :: _, _, [], hx, _ => hx.elim
  | [], _, _ :: _, hx, _ => hx.elim
  | _ :: _, [], _ :: _, _, hy => hy.elim
  | d :: ds, e :: es, v :: vs, hx, hy => by rw [isAt_inj hx.1 hy.1, isAts_inj hx.2 hy.2]
end
mutual
theorem isAt_keep {h h' : Heap} (k : ∀ a o its n, h.get? a = some o → o.data = .seq its n → h'.get? a = some o) : ∀ {x : PyData} {v : Value}, isAt h x v → isAt h' x v
  | .int i, v, hx => hx
  | .str i, v, hx => hx
  | .tuple ds, v, hx => by
    obtain ⟨a, e, o, its, n, h1, h2, h3, h4⟩ := hx
    exact ⟨a, e, o, its, n, k a o its n h1 h3, h2, h3, isAts_keep k h4⟩
  | .none, _, hx => hx.elim
  | .bool _, _, hx => hx.elim
  | .list _, _, hx => hx.elim
  | .dict _, _, hx => hx.elim
theorem isAts_keep {h h' : Heap} (k : ∀ a o its n, h.get? a = some o → o.data = .seq its n → h'.get? a = some o) : ∀ {x : List PyData} {v : List Value}, isAts h x v → isAts h' x v
  | [], [], _ => trivial
  | [], _ :: _, hx => hx.elim
  | _ :: _, [], hx => hx.elim
  | d :: ds, v :: vs, hx => ⟨isAt_keep k hx.1, isAts_keep k hx.2⟩
end
theorem isAts_len {h : Heap} : ∀ {x : List PyData} {v : List Value}, isAts h x v → x.length = v.length
  | [], [], _ => rfl
  | [], _ :: _, hx => hx.elim
  | _ :: _, [], hx => hx.elim
  | d :: ds, v :: vs, hx => by simp [isAts_len hx.2]
section
variable {prog : Program} {w : World}
theorem hash_tup (A : Around) (E : Value → Shared → Prop) (ds : List PyData) (ih : ∀ d ∈ ds, ∀ (s : Shared) (v : Value) (Q : Int → Shared → Prop), isAt s.heap d v → Q (hashD w d) { s with toks := s.toks + drw d } → wpAny (model prog w) A.in1 (pyHash v) Q E s)
    (s : Shared) (v : Value) (Q : Int → Shared → Prop) (hu : A.units < cLine) (hx : isAt s.heap (.tuple ds) v) (h : Q (hashD w (.tuple ds)) { s with toks := s.toks + drw (.tuple ds) }) : wpAny (model prog w) A (pyHash v) Q E s := by
  obtain ⟨a, rfl, o, its, n, ho, hc, hd, hi⟩ := hx
  have hT : s.TypeIs (.ref a) "tuple" := ⟨o, ho, hc⟩
  unfold pyHash pyHashByItsType
  refine wpAny_bind (wpAny_cRoomFor_or (.inr hu) ?_)
  refine wpAny_bind (wpAny_specialOf hT F.slot_tuple_hash.lookup ?_)
  have nn : (some (Value.builtin "tuple.__hash__") == some Value.none) = false := beq_builtin_none ..
  dsimp only
  rw [if_neg (by rw [nn]; exact Bool.false_ne_true)]
  refine wpAny_bind (wpAny_specialOf hT F.slot_tuple_hash.lookup ?_)
  refine wpAny_bind (wpAny_callSpecialIfBoundUnlessNone?_slot hT F.slot_tuple_hash (wpAny_call_entry F.slot_tuple_hash hT F.entry_tuple_hash ?_ (F.args_tuple_hash_1 _)))
  show wpAny _ _ (Builtin.Tuple.tupleItemsOf (.ref a) >>= _) _ _ s
  refine wpAny_bind (wpAny_tupleItemsOf ho hd ?_)
  refine wpAny_bind ?_
  rw [← Array.forIn_toList]
  refine wpAny_forIn_list _ (fun rest (b : Array Int) s' => ∃ xs ys, ds = xs ++ ys ∧ isAts s.heap ys rest ∧ b.toList = hashDs w xs ∧ s' = { s with toks := s.toks + drws xs }) _ ?_ ?_ _ _ ⟨[], ds, rfl, hi, rfl, rfl⟩
  · rintro x rest b s' ⟨xs, ys, e1, e2, e3, rfl⟩
    cases ys with
    | nil => exact e2.elim
    | cons y ys =>
      refine wpAny_bind (ih y (by rw [e1]; simp) _ x _ e2.1 ?_)
      refine wpAny_pure ⟨xs ++ [y], ys, by rw [e1]; simp, e2.2, ?_, ?_⟩
      · rw [Array.toList_push, e3]
        clear e1 e3
        induction xs with
        | nil => rfl
        | cons z zs ihz =>
          show hashD w z :: (hashDs w zs ++ [hashD w y]) = hashD w z :: hashDs w (zs ++ [y])
          rw [ihz]
      · have dl : ∀ l : List PyData, drws (l ++ [y]) = drws l + drw y := fun l => by
          induction l with
          | nil => show drw y + 0 = 0 + drw y; omega
          | cons z zs ihz => show drw z + drws (zs ++ [y]) = drw z + drws zs + drw y; rw [ihz]; omega
        rw [dl, Nat.add_assoc]
  · rintro b s' ⟨xs, ys, e1, e2, e3, rfl⟩
    cases ys with
    | cons y ys => exact e2.elim
    | nil =>
      rw [List.append_nil] at e1
      subst e1
      show wpAny _ _ (retInt (Builtin.Tuple.tupleHashOf b.toList)) _ _ _
      rw [e3]
      refine wpAny_ret_mkInt ?_
      have hh : Q (reduceHash (Builtin.Tuple.tupleHashOf (hashDs w ds))) { s with toks := s.toks + (drws ds + 1) } := h
      unfold reduceHash at hh
      show wpAny _ _ (pyHashByItsType.reduced (Builtin.Tuple.tupleHashOf (hashDs w ds))) Q E _
      unfold pyHashByItsType.reduced
      by_cases hr : (decide (-(2 : Int) ^ 63 ≤ Builtin.Tuple.tupleHashOf (hashDs w ds)) && decide (Builtin.Tuple.tupleHashOf (hashDs w ds) < 2 ^ 63)) = true
      · rw [if_pos hr] at hh ⊢
        exact wpAny_pure (by rw [Nat.add_assoc]; exact hh)
      · rw [if_neg hr] at hh ⊢
        exact wpAny_bind (wpAny_rule (wpAny_pure (by rw [Nat.add_assoc]; exact hh)))
theorem dep_mem : ∀ {ds : List PyData} {d : PyData}, d ∈ ds → dep d ≤ deps ds
  | [], d, h => by simp at h
  | e :: es, d, h => by
    have h1 : deps (e :: es) = max (dep e) (deps es) := rfl
    rcases List.mem_cons.mp h with z | z
    · subst z; omega
    · have := dep_mem z; omega
def HP (prog : Program) (w : World) (E : Value → Shared → Prop) (d : PyData) : Prop := ∀ (A : Around) (s : Shared) (v : Value) (Q : Int → Shared → Prop), A.units + dep d < cLine → isAt s.heap d v → Q (hashD w d) { s with toks := s.toks + drw d } → wpAny (model prog w) A (pyHash v) Q E s
mutual
theorem hash_at (E : Value → Shared → Prop) : ∀ (d : PyData), HP prog w E d
  | .int i => fun A s v Q hu hx h => by
    obtain ⟨t, rfl⟩ := hx
    exact wpAny_pyHash_int h
  | .str i => fun A s v Q hu hx h => by
    obtain ⟨t, rfl⟩ := hx
    exact wpAny_pyHash_str h
  | .tuple ds => fun A s v Q hu hx h => by
    have e : dep (.tuple ds) = deps ds + 1 := rfl
    have l := hash_all E ds
    exact hash_tup A E ds (fun d hd s v Q hx h => l d hd A.in1 s v Q (by have := dep_mem hd; show A.units + 1 + dep d < cLine; omega) hx h) s v Q (by omega) hx h
  | .none => fun _ _ _ _ _ hx _ => hx.elim
  | .bool _ => fun _ _ _ _ _ hx _ => hx.elim
  | .list _ => fun _ _ _ _ _ hx _ => hx.elim
  | .dict _ => fun _ _ _ _ _ hx _ => hx.elim
theorem hash_all (E : Value → Shared → Prop) : ∀ (ds : List PyData), ∀ d ∈ ds, HP prog w E d
  | [] => fun d hd => by simp at hd
  | e :: es => fun d hd => by
    have h1 := hash_at E e
    have h2 := hash_all E es
    rcases List.mem_cons.mp hd with z | z
    · rw [z]; exact h1
    · exact h2 d z
end
/-! equality -/
theorem eq_tup (A : Around) (E : Value → Shared → Prop) (ds es : List PyData) (ih : ∀ d ∈ ds, ∀ (e : PyData) (s : Shared) (u v : Value) (Q : Bool → Shared → Prop) (E : Value → Shared → Prop), isAt s.heap d u → isAt s.heap e v → Q (decide (d = e)) s → wpAny (model prog w) A.in1 (eqBool u v) Q E s)
    (s : Shared) (u v : Value) (Q : Bool → Shared → Prop) (hu : A.units < cLine) (hx : isAt s.heap (.tuple ds) u) (hy : isAt s.heap (.tuple es) v) (h : Q (decide (PyData.tuple ds = PyData.tuple es)) s) : wpAny (model prog w) A (eqBool u v) Q E s := by
  have hx0 := hx
  have hy0 := hy
  obtain ⟨a, rfl, oa, xs, na, hoa, hca, hda, hia⟩ := hx
  obtain ⟨b, rfl, ob, ys, nb, hob, hcb, hdb, hib⟩ := hy
  have hTa : s.TypeIs (.ref a) "tuple" := ⟨oa, hoa, hca⟩
  have hTb : s.TypeIs (.ref b) "tuple" := ⟨ob, hob, hcb⟩
  unfold eqBool
  refine wpAny_holding ?_
  by_cases hab : (Value.ref a == Value.ref b) = true
  · rw [if_pos hab]
    have e : a = b := by have := eq_of_beq hab; injection this
    subst e
    have e2 := isAt_inj hx0 hy0
    rw [decide_eq_true e2] at h
    exact wpAny_bind (wpAny_rule (wpAny_pure h))
  · rw [if_neg hab]
    refine wpAny_bind (wpAny_richCompare_same_room (op := .Eq) hTa hTb F.slot_tuple_eq (wpAny_call_entry F.slot_tuple_eq hTa F.entry_tuple_eq ?_ (F.args_tuple_eq_2 _ _)) hu)
    show wpAny _ _ (isInstance (.ref b) (.type "tuple") >>= _) _ _ s
    refine wpAny_bind (wpAny_isInstance hTb isSubtype_tuple_tuple ?_)
    simp only [Bool.not_true, Bool.false_eq_true, if_false]
    refine wpAny_bind (wpAny_tupleItemsOf hoa hda ?_)
    refine wpAny_bind (wpAny_tupleItemsOf hob hdb ?_)
    refine wpAny_bind ?_
    refine wpAny_forIn_list _ (fun rest r s' => r.1 = none ∧ s' = s ∧ ∃ ds1 ds2 es2 xs2 ys2, ds = ds1 ++ ds2 ∧ rest = List.zip xs2 ys2 ∧ isAts s.heap ds2 xs2 ∧ isAts s.heap es2 ys2 ∧ (ds = es ↔ ds2 = es2) ∧ (xs2.length == ys2.length) = (xs.size == ys.size)) _ ?_ ?_ _ _
      ⟨rfl, rfl, [], ds, es, xs.toList, ys.toList, rfl, rfl, hia, hib, Iff.rfl, by simp⟩
    · rintro ⟨p, q⟩ rest r s' ⟨hr, rfl, ds1, ds2, es2, xs2, ys2, e0, hz, hx', hy', hiff, hlen⟩
      match ds2, xs2, es2, ys2, hx', hy', hz with
      | d :: ds2, x :: xs2, e :: es2, y :: ys2, hx', hy', hz =>
        simp only [List.zip_cons_cons, List.cons.injEq, Prod.mk.injEq] at hz
        obtain ⟨⟨rfl, rfl⟩, rfl⟩ := hz
        refine wpAny_bind (ih d (by rw [e0]; simp) e _ p q _ _ hx'.1 hy'.1 ?_)
        by_cases hde : d = e
        · subst hde
          rw [decide_eq_true rfl]
          simp only [Bool.not_true, Bool.false_eq_true, if_false]
          exact wpAny_pure ⟨rfl, rfl, ds1 ++ [d], ds2, es2, xs2, ys2, by rw [e0]; simp, rfl, hx'.2, hy'.2, by rw [hiff]; simp, by simpa using hlen⟩
        · rw [decide_eq_false hde]
          simp only [Bool.not_false, if_true]
          have nf : ¬ PyData.tuple ds = PyData.tuple es := fun z => hde (by
            injection z with z
            have := hiff.mp z
            injection this)
          rw [decide_eq_false nf] at h
          exact wpAny_bind (wpAny_pure (wpAny_pure (wpAny_pure ⟨_, rfl, (fun z => nomatch z), wpAny_truthy_bool h⟩)))
      | [], [], _, _, _, _, hz => simp at hz
      | _ :: _, _ :: _, [], [], _, _, hz => simp at hz
      | [], _ :: _, _, _, hx', _, _ => exact hx'.elim
      | _ :: _, [], _, _, hx', _, _ => exact hx'.elim
      | _ :: _, _ :: _, [], _ :: _, _, hy', _ => exact hy'.elim
      | _ :: _, _ :: _, _ :: _, [], _, hy', _ => exact hy'.elim
    · rintro ⟨r1, r2⟩ s' ⟨hr, rfl, ds1, ds2, es2, xs2, ys2, e0, hz, hx', hy', hiff, hlen⟩
      simp only at hr
      subst hr
      refine wpAny_pure ?_
      have fin : (xs.size == ys.size) = decide (PyData.tuple ds = PyData.tuple es) := by
        rw [← hlen]
        have l1 := isAts_len hx'
        have l2 := isAts_len hy'
        have z : xs2 = [] ∨ ys2 = [] := by
          cases xs2 with
          | nil => exact .inl rfl
          | cons x xs2 => cases ys2 with
            | nil => exact .inr rfl
            | cons y ys2 => simp at hz
        by_cases q : ds2 = es2
        · have e1 : PyData.tuple ds = PyData.tuple es := by rw [hiff.mpr q]
          rw [decide_eq_true e1, ← l1, ← l2, q]
          simp
        · have e1 : ¬ PyData.tuple ds = PyData.tuple es := fun w => q (hiff.mp (by injection w))
          rw [decide_eq_false e1, beq_eq_false_iff_ne, ← l1, ← l2]
          intro w
          apply q
          rcases z with z | z
          · subst z
            have a1 : ds2 = [] := List.eq_nil_of_length_eq_zero l1
            subst a1
            exact (List.eq_nil_of_length_eq_zero w.symm).symm
          · subst z
            have a1 : es2 = [] := List.eq_nil_of_length_eq_zero l2
            subst a1
            exact List.eq_nil_of_length_eq_zero w
      show ∃ _, _
      refine ⟨_, rfl, (fun z => nomatch z), ?_⟩
      refine wpAny_truthy_bool ?_
      rw [fin]
      exact h
def EP1 (prog : Program) (w : World) (d : PyData) : Prop := ∀ (A : Around) (s : Shared) (e : PyData) (u v : Value) (Q : Bool → Shared → Prop) (E : Value → Shared → Prop), A.units + dep d < cLine → isAt s.heap d u → isAt s.heap e v → Q (decide (d = e)) s → wpAny (model prog w) A (eqBool u v) Q E s
theorem at_tup {h : Heap} {ds : List PyData} {v : Value} (hx : isAt h (.tuple ds) v) : ∃ a its, v = .ref a ∧ h.IsTuple a its := by
  obtain ⟨a, e, o, its, n, h1, h2, h3, _⟩ := hx
  exact ⟨a, its, e, o, h1, h2, n, h3⟩
mutual
theorem eq_at : ∀ (d : PyData), EP1 prog w d
  | .int i => fun A s e u v Q E hu hx hy h => by
    obtain ⟨t, rfl⟩ := hx
    cases e with
    | int j =>
      obtain ⟨t', rfl⟩ := hy
      refine SeqAt.EqAt.int_int i t j t' prog w E Q ?_
      have e : decide (PyData.int i = PyData.int j) = (i == j) := by rw [Bool.eq_iff_iff]; simp
      rw [← e]
      exact h
    | str x =>
      obtain ⟨t', rfl⟩ := hy
      exact SeqAt.EqAt.int_str i t x t' prog w E Q (by rw [decide_eq_false (fun z => by cases z)] at h; exact h)
    | tuple es =>
      obtain ⟨a, its, rfl, hT⟩ := at_tup hy
      exact SeqAt.EqAt.int_tuple i t hT (by omega) prog w E Q (by rw [decide_eq_false (fun z => by cases z)] at h; exact h)
    | _ => exact hy.elim
  | .str x => fun A s e u v Q E hu hx hy h => by
    obtain ⟨t, rfl⟩ := hx
    cases e with
    | int j =>
      obtain ⟨t', rfl⟩ := hy
      exact SeqAt.EqAt.str_int x t j t' prog w E Q (by rw [decide_eq_false (fun z => by cases z)] at h; exact h)
    | str y =>
      obtain ⟨t', rfl⟩ := hy
      refine SeqAt.EqAt.str_str x t y t' prog w E Q ?_
      have e : decide (PyData.str x = PyData.str y) = (x == y) := by rw [Bool.eq_iff_iff]; simp
      rw [← e]
      exact h
    | tuple es =>
      obtain ⟨a, its, rfl, hT⟩ := at_tup hy
      exact SeqAt.EqAt.str_tuple x t hT (by omega) prog w E Q (by rw [decide_eq_false (fun z => by cases z)] at h; exact h)
    | _ => exact hy.elim
  | .tuple ds => fun A s e u v Q E hu hx hy h => by
    have e1 : dep (.tuple ds) = deps ds + 1 := rfl
    have l := eq_all ds
    cases e with
    | int j =>
      obtain ⟨t', rfl⟩ := hy
      obtain ⟨a, its, rfl, hT⟩ := at_tup hx
      exact SeqAt.EqAt.tuple_int j t' hT (by omega) prog w E Q (by rw [decide_eq_false (fun z => by cases z)] at h; exact h)
    | str y =>
      obtain ⟨t', rfl⟩ := hy
      obtain ⟨a, its, rfl, hT⟩ := at_tup hx
      exact SeqAt.EqAt.tuple_str y t' hT (by omega) prog w E Q (by rw [decide_eq_false (fun z => by cases z)] at h; exact h)
    | tuple es => exact eq_tup A E ds es (fun d hd e s u v Q E hx hy h => l d hd A.in1 s e u v Q E (by have := dep_mem hd; show A.units + 1 + dep d < cLine; omega) hx hy h) s u v Q (by omega) hx hy h
    | _ => exact hy.elim
  | .none => fun _ _ _ _ _ _ _ _ hx _ _ => hx.elim
  | .bool _ => fun _ _ _ _ _ _ _ _ hx _ _ => hx.elim
  | .list _ => fun _ _ _ _ _ _ _ _ hx _ _ => hx.elim
  | .dict _ => fun _ _ _ _ _ _ _ _ hx _ _ => hx.elim
theorem eq_all : ∀ (ds : List PyData), ∀ d ∈ ds, EP1 prog w d
  | [] => fun d hd => by simp at hd
  | e :: es => fun d hd => by
    have h1 := eq_at e
    have h2 := eq_all es
    rcases List.mem_cons.mp hd with z | z
    · rw [z]; exact h1
    · exact h2 d z
end
/-! looks that change nothing -/
theorem quiet_tup {A : Around} {E : Value → Shared → Prop} {s : Shared} (n : Nat) (ds : List PyData) (ih : ∀ d ∈ ds, ∀ (v : Value) (Q : Bool → Shared → Prop), isAt s.heap d v → Q true s → wpAny (model prog w) A (eqIsQuiet n v) Q E s)
    (v : Value) (Q : Bool → Shared → Prop) (hx : isAt s.heap (.tuple ds) v) (h : Q true s) : wpAny (model prog w) A (eqIsQuiet (n + 1) v) Q E s := by
  obtain ⟨a, rfl, o, its, m, ho, hc, hd, hi⟩ := hx
  have hT : s.TypeIs (.ref a) "tuple" := ⟨o, ho, hc⟩
  unfold eqIsQuiet
  refine wpAny_bind (wpAny_specialOf hT F.slot_tuple_eq.lookup ?_)
  show wpAny _ _ (isInstance (.ref a) (.type "tuple") >>= _) _ _ s
  refine wpAny_bind (wpAny_isInstance hT isSubtype_tuple_tuple ?_)
  simp only [Bool.not_true, Bool.false_eq_true, if_false]
  refine wpAny_bind (wpAny_seqItems ho hd ?_)
  refine wpAny_bind ?_
  show wpAny _ _ (forIn its _ _) _ _ s
  rw [← Array.forIn_toList]
  refine wpAny_forIn_list _ (fun rest r s' => r.1 = none ∧ s' = s ∧ ∃ d1 d2, ds = d1 ++ d2 ∧ isAts s.heap d2 rest) _ ?_ ?_ _ _ ⟨rfl, rfl, [], ds, rfl, hi⟩
  · rintro v rest r s' ⟨hr, rfl, d1, d2, e1, e2⟩
    cases d2 with
    | nil => exact e2.elim
    | cons d d2 =>
      refine wpAny_bind (ih d (by rw [e1]; simp) v _ e2.1 ?_)
      simp only [Bool.not_true, Bool.false_eq_true, if_false]
      exact wpAny_pure ⟨rfl, rfl, d1 ++ [d], d2, by rw [e1]; simp, e2.2⟩
  · rintro ⟨r1, r2⟩ s' ⟨hr, rfl, _⟩
    simp only at hr
    subst hr
    exact wpAny_pure h
def QP (prog : Program) (w : World) (d : PyData) : Prop := ∀ (A : Around) (E : Value → Shared → Prop) (s : Shared) (n : Nat) (v : Value) (Q : Bool → Shared → Prop), dep d ≤ n → isAt s.heap d v → Q true s → wpAny (model prog w) A (eqIsQuiet n v) Q E s
mutual
theorem quiet_at : ∀ (d : PyData), QP prog w d
  | .int i => fun A E s n v Q hn hx h => by
    obtain ⟨t, rfl⟩ := hx
    rw [eqIsQuiet_byValue n rfl]
    exact wpAny_pure h
  | .str i => fun A E s n v Q hn hx h => by
    obtain ⟨t, rfl⟩ := hx
    rw [eqIsQuiet_byValue n rfl]
    exact wpAny_pure h
  | .tuple ds => fun A E s n v Q hn hx h => by
    have e1 : dep (.tuple ds) = deps ds + 1 := rfl
    have l := quiet_all ds
    cases n with
    | zero => omega
    | succ n => exact quiet_tup n ds (fun d hd v Q hx h => l d hd A E s n v Q (by have := dep_mem hd; omega) hx h) v Q hx h
  | .none => fun _ _ _ _ _ _ _ hx _ => hx.elim
  | .bool _ => fun _ _ _ _ _ _ _ hx _ => hx.elim
  | .list _ => fun _ _ _ _ _ _ _ hx _ => hx.elim
  | .dict _ => fun _ _ _ _ _ _ _ hx _ => hx.elim
theorem quiet_all : ∀ (ds : List PyData), ∀ d ∈ ds, QP prog w d
  | [] => fun d hd => by simp at hd
  | e :: es => fun d hd => by
    have h1 := quiet_at e
    have h2 := quiet_all es
    rcases List.mem_cons.mp hd with z | z
    · rw [z]; exact h1
    · exact h2 d z
end
end
/-- tuples as keys -/
noncomputable def dkind (prog : Program) (w : World) : HeapKind prog w PyData where
  is := fun h d a => dep d ≤ 8 ∧ isAt h d (.ref a)
  hash := hashD w
  draws := drw
  room := fun A => A.units + 10 < cLine
  inj := fun hx hy => isAt_inj hx.2 hy.2
  keeps := fun {h h' k a d o es ep} hx ho hd hs => ⟨hx.1, isAt_keep (fun b ob its n e1 e2 => by
    by_cases hb : b = d
    · subst hb
      rw [ho] at e1
      cases e1
      rw [hd] at e2
      cases e2
    · exact (hs.2 b hb).trans e1) hx.2⟩
  pyHash := fun {A E s k a Q} hu hx h => hash_at E k A s _ Q (by have := hx.1; omega) hx.2 h
  eqBool := fun {A E s x y a b Q} hu hx hy h => eq_at x A s y _ _ Q E (by have := hx.1; omega) hx.2 hy.2 h
  quiet := fun {A E s k a Q} hx h => quiet_at k A E s 8 _ Q hx.1 hx.2 h
end Z

namespace Z
open PySem L2 PyProof.Rows

/-! ### dicts whose keys are tuples -/
mutual
def kOK : PyData → Bool
  | .int _ => true
  | .str _ => true
  | .tuple ds => kOKs ds
  | _ => false
def kOKs : List PyData → Bool
  | [] => true
  | d :: ds => kOK d && kOKs ds
end
abbrev DEn := PyData × Addr × Value
def DxO (P : Program) (w : World) (a : Addr) (xs : List DEn) : HO := .ext fun h => xs.length ≤ sizeLine ∧ (a == sysModules) = false ∧
  ∃ o es ep, h.get? a = some o ∧ o.ExactDict ∧ o.data = .dict es ep ∧ es.toList = xs.map (entryOfKey (dkind P w)) ∧ (xs.map (·.1)).Nodup
/-- a key as it stands -/
def KyD (K : PySem.W.Frag) (H : Hp) (a : Addr) (d : PyData) : Prop := Dp K H (.ref a) d ∧ kOK d = true ∧ dep d ≤ 8
section
variable {X : Cx} {pins : List (Addr × Obj)} {σ : L2.St} {H : Hp} {s : Shared}
mutual
theorem dp_at (I : Inv X pins σ H s) : ∀ (d : PyData) (v : V) (u : Value), kOK d = true → Dp X.K H v d → RelV v u → isAt s.heap d u
  | .int i, _, _, _, h, r => by cases h; exact r
  | .str i, _, _, _, h, r => by cases h; exact r
  | .tuple ds, _, _, k, h, r => by
    cases h with
    | tup hs ha =>
      cases r
      obtain ⟨its, rv, ⟨o, ho, hc, n, hd⟩, _⟩ := I.tuple hs
      exact ⟨_, rfl, o, _, n, ho, hc, hd, dps_at I ds _ its k ha rv⟩
  | .none, _, _, k, _, _ => by cases k
  | .bool _, _, _, k, _, _ => by cases k
  | .list _, _, _, k, _, _ => by cases k
  | .dict _, _, _, k, _, _ => by cases k
theorem dps_at (I : Inv X pins σ H s) : ∀ (ds : List PyData) (vs : List V) (us : List Value), kOKs ds = true → DpAll X.K H vs ds → Vals vs us → isAts s.heap ds us
  | [], _, _, _, h, r => by cases h; cases r; trivial
  | d :: ds, _, _, k, h, r => by
    cases h with
    | cons h1 h2 =>
      cases r with
      | cons r1 r2 =>
        have k' : (kOK d && kOKs ds) = true := k
        rw [Bool.and_eq_true] at k'
        exact ⟨dp_at I d _ _ k'.1 h1 r1, dps_at I ds _ _ k'.2 h2 r2⟩
end
theorem dx_of {P : Program} {w : World} {h : Heap} {a : Addr} {xs : List DEn} (ok : HOk P w H h) (e : H a = some (DxO P w a xs)) : xs.length ≤ sizeLine ∧ (a == sysModules) = false ∧ ∃ o es ep, h.get? a = some o ∧ o.ExactDict ∧ o.data = .dict es ep ∧ es.toList = xs.map (entryOfKey (dkind P w)) ∧ (xs.map (·.1)).Nodup := (ok a _ e).1
theorem dx_new {P : Program} {w : World} {h : Heap} {a : Addr} {xs : List DEn} (h1 : xs.length ≤ sizeLine) (h2 : (a == sysModules) = false) (h3 : ∃ o es ep, h.get? a = some o ∧ o.ExactDict ∧ o.data = .dict es ep ∧ es.toList = xs.map (entryOfKey (dkind P w)) ∧ (xs.map (·.1)).Nodup) : ObjOk P w H h a (DxO P w a xs) :=
  ⟨⟨h1, h2, h3⟩, let ⟨o, _, _, e, _⟩ := h3; ⟨o, e⟩, fun g1 g2 ⟨p1, p2, o, es, ep, e, r⟩ k => ⟨p1, p2, o, es, ep, k o e, r⟩⟩
theorem dx_H (I : Inv X pins σ H s) {a : Addr} {xs : List DEn} (e : H a = some (DxO X.prog X.w a xs)) (k : ∀ x ∈ xs, KyD X.K H x.2.1 x.1) : xs.length ≤ sizeLine ∧ (a == sysModules) = false ∧ s.heap.DictOfH (dkind X.prog X.w) a xs := by
  obtain ⟨h1, h2, o, es, ep, h3, h4, h5, h6, h7⟩ := dx_of I.hok e
  exact ⟨h1, h2, o, es, ep, h3, h4, h5, h6, fun x hx => ⟨(k x hx).2.2, dp_at I _ _ _ (k x hx).2.1 (k x hx).1 rfl⟩, h7⟩
theorem nd_sub {α : Type} [DecidableEq α] {l1 : List α} : ∀ (_ : l1.Nodup) {l2 : List α} (_ : ∀ x ∈ l1, x ∈ l2), l1.length ≤ l2.length := by
  induction l1 with
  | nil => intro _ _ _; exact Nat.zero_le _
  | cons a l ih =>
    intro nd l2 h
    rw [List.nodup_cons] at nd
    have h1 := ih nd.2 (l2 := l2.erase a) fun x hx => (List.mem_erase_of_ne (fun (e : x = a) => nd.1 (by rw [← e]; exact hx))).mpr (h x (List.mem_cons_of_mem _ hx))
    have h2 : a ∈ l2 := h a List.mem_cons_self
    have h3 := List.length_erase_of_mem h2
    have h4 := List.length_pos_of_mem h2
    rw [List.length_cons]
    omega
/-- what stands at a key -/
noncomputable def atD (xs : List DEn) (d : PyData) : Option Value := (atKey xs d).map (·.2)
def rInX (X : Cx) (neg : Bool) : R2 := fun x y H Q => ∃ p b xs d, y = .ref p ∧ x = .ref b ∧ H p = some (DxO X.prog X.w p xs) ∧ (∀ e ∈ xs, KyD X.K H e.2.1 e.1) ∧ KyD X.K H b d ∧ Q (.bl (if neg then !(atKey xs d).isSome else (atKey xs d).isSome)) H
theorem op_inX (hu : X.A.units + 20 < cLine) : OpR X (compareOp .In) (rInX X false) := by
  intro pins s σ H x y v u Q I rx ry h
  obtain ⟨p, b, xs, d, rfl, rfl, hp, hk, hb, q⟩ := h
  cases rx
  cases ry
  obtain ⟨h1, h2, h3⟩ := dx_H I hp hk
  exact wpAny_in_heap (knd := dkind X.prog X.w) (k := d) (show X.A.units + 1 + 10 < cLine by omega) ⟨hb.2.2, dp_at I _ _ _ hb.2.1 hb.1 rfl⟩ h2 h3 ⟨.bl _, H, I.tok _, rfl, q⟩
theorem op_ninX (hu : X.A.units + 20 < cLine) : OpR X (compareOp .NotIn) (rInX X true) := by
  intro pins s σ H x y v u Q I rx ry h
  obtain ⟨p, b, xs, d, rfl, rfl, hp, hk, hb, q⟩ := h
  cases rx
  cases ry
  obtain ⟨h1, h2, h3⟩ := dx_H I hp hk
  exact wpAny_notIn_heap (knd := dkind X.prog X.w) (k := d) (show X.A.units + 1 + 10 < cLine by omega) ⟨hb.2.2, dp_at I _ _ _ hb.2.1 hb.1 rfl⟩ h2 h3 ⟨.bl _, H, I.tok _, rfl, q⟩
def rIxX (X : Cx) : R2 := fun x y H Q => ∃ p b xs d c u v, x = .ref p ∧ y = .ref b ∧ H p = some (DxO X.prog X.w p xs) ∧ (∀ e ∈ xs, KyD X.K H e.2.1 e.1) ∧ KyD X.K H b d ∧ atKey xs d = some (c, u) ∧ RelV v u ∧ Q v H
theorem ix_X (hu : X.A.units + 20 < cLine) : IxR X (rIxX X) := by
  intro value slice pins s σ H x y v u Q I rx ry h hs
  obtain ⟨p, b, xs, d, c, u', v', rfl, rfl, hp, hk, hb, ha, rv, q⟩ := h
  cases rx
  cases ry
  obtain ⟨h1, h2, h3⟩ := dx_H I hp hk
  refine tail_any h3.typeIs slot_dict_getitem.lookup ?_ hs
  exact wpAny_getItem_heap (knd := dkind X.prog X.w) (k := d) (show X.A.units + 1 + 10 < cLine by omega) ⟨hb.2.2, dp_at I _ _ _ hb.2.1 hb.1 rfl⟩ h3 ha ⟨v', H, I.tok _, rv, q⟩
def rPutX (X : Cx) : TSet := fun o i v H Q => ∃ p b xs d, o = .ref p ∧ i = .ref b ∧ H p = some (DxO X.prog X.w p xs) ∧ (∀ e ∈ xs, KyD X.K H e.2.1 e.1) ∧ KyD X.K H b d ∧ (∃ U : List PyData, U.length < sizeLine ∧ ∀ e ∈ xs, e.1 ∈ U) ∧ ∀ u, RelV v u → Q (upd H p (DxO X.prog X.w p (storedH xs d b u)))
theorem put_X (hu : X.A.units + 20 < cLine) : PSet X (rPutX X) := by
  intro pins s σ H o i v ov iv u Q I ro ri rv h
  obtain ⟨p, b, xs, d, rfl, rfl, hp, hk, hb, ⟨U, hU, hin⟩, q⟩ := h
  cases ro
  cases ri
  have hl : xs.length < sizeLine := by
    obtain ⟨_, _, _, _, _, _, _, _, _, nd⟩ := dx_of I.hok hp
    have := (nd_sub nd (l2 := U) fun x hx => by obtain ⟨e, he, q⟩ := List.mem_map.mp hx; rw [← q]; exact hin e he)
    rw [List.length_map] at this
    omega
  obtain ⟨h1, h2, h3⟩ := dx_H I hp hk
  refine wpAny_setItem_heap (knd := dkind X.prog X.w) (k := d) (hsz := h1) (show X.A.units + 1 + 10 < cLine by omega) ⟨hb.2.2, dp_at I _ _ _ hb.2.1 hb.1 rfl⟩ h3 fun h' hm hs => ?_
  obtain ⟨o, es, ep, e1, e2, e3, e4, _, e6⟩ := hm
  have ln : (storedH xs d b u).length ≤ sizeLine := by
    unfold storedH
    split
    · simpa using h1
    · simp; omega
  refine ⟨_, d_write (ob := DxO X.prog X.w p (storedH xs d b u)) I (by rw [hp]; exact True.intro) hs ⟨o, e1⟩ (dx_new ln h2 ⟨o, es, ep, e1, e2, e3, e4, e6⟩), q u rv⟩
/-- {} -/
theorem pe_newX {pos : Pos} : PE X (.Dict [] [] pos) (fun _ H Q => ∀ p, H p = none → Q (.ref p) (upd H p (DxO X.prog X.w p []))) := by
  refine ⟨fun pins s σ H Q I h => ?_⟩
  refine wpAny_Dict_empty ⟨.ref s.heap.objs.size, _, I.laid (a := s.heap.objs.size) (o := DxO X.prog X.w s.heap.objs.size []) (t' := s.toks) (fun _ _ q => Heap.get?_push_of_some _ q) (Nat.le_refl _) ?_, rfl, h _ (I.hok.fresh (Nat.le_refl _))⟩
  refine dx_new (Nat.zero_le _) ?_ ⟨_, #[], 0, Heap.get?_push_size _ rfl, ⟨rfl, rfl, rfl⟩, rfl, rfl, List.nodup_nil⟩
  exact beq_eq_false_iff_ne.mpr (Nat.ne_of_gt I.big)
end
end Z

namespace Z
open PySem L2 PyProof.Rows

/-! ### own things, weakened -/
section
variable {X : Cx} {e a b c : Expr} {es : List Expr} {st : Stmt} {rest body : List Stmt} {s s' s1 s2 s3 : S} {r : SD} {rs : List SD} {pos p : Pos} {R : Bool → S → Prop} {k : Bool} {P : Po} {M : S → Prop} {ds : List PyData} {x y : PyData} {i j : Int}
def OLe (P Q : Own) : Prop := ∀ K F H v fp, P.holds K F H v fp → Q.holds K F H v fp
theorem Sat.wkO {K : PySem.W.Frag} {σ : L2.St} {ρ : List V} {T : List En} {H : Hp} {j : Nat} {O Q : Own} (g : Sat K s σ ρ T H) (hj : s.R[j]? = some O) (h : OLe O Q) : Sat K ⟨s.e, s.R.set j Q⟩ σ ρ T H := by
  obtain ⟨v, e2, ok, bk⟩ := g.obj hj
  refine bk H Q ?_
  obtain ⟨F, L, e1, g1⟩ := ok
  cases L with
  | nil => simp at e1
  | cons z L =>
    obtain ⟨z1, fp⟩ := z
    simp at e1
    obtain ⟨e3, e4⟩ := e1
    subst e3
    obtain ⟨u, e5, h5⟩ := g1.ent _ List.mem_cons_self
    have nd := g1.nd
    have ow := g1.own
    unfold fpsOf at nd ow
    rw [List.flatMap_cons] at nd ow
    obtain ⟨n1, n2, n3⟩ := List.nodup_append.mp nd
    have ev : v = u := Option.some.inj e5
    subst ev
    refine ⟨F, (((IT.o Q, some v), fp) :: L), by rw [List.map_cons, e4], g1.tail.oCons (h _ _ _ _ _ h5) n1 (fun a ha hb => n3 a ha a hb rfl) fun a ha => ow a (List.mem_append_left _ ha)⟩
theorem zss_wkO {j : Nat} {O Q : Own} (hj : s.R[j]? = some O) (h : OLe O Q) (k : ZSs X rest ⟨s.e, s.R.set j Q⟩ P) : ZSs X rest s P := PSs.imp k fun D σ H ⟨t, T, ρ, e1, hb, g, q⟩ => by
  subst e1
  exact ⟨_, T, ρ, rfl, hb, g.wkO hj h, q⟩
theorem set_self {α : Type} {l : List α} {j : Nat} {a : α} (h : l[j]? = some a) : l.set j a = l := by
  obtain ⟨hj, e⟩ := List.getElem?_eq_some_iff.mp h
  subst e
  exact List.set_getElem_self hj

/-! ### memos -/
/-- a dict of answers: each told answer is right -/
def OM (pr : Program) (w : World) (f : PyData → PyData → Prop) : Own where
  holds := fun K F H v fp => ∃ p xs, v = .ref p ∧ fp = [p] ∧ H p = some (DxO pr w p xs) ∧ ∀ e ∈ xs, KyD K F e.2.1 e.1 ∧ ∃ vv dv, RelV vv e.2.2 ∧ Dp K F vv dv ∧ f e.1 dv
  stay := fun ⟨p, xs, e1, e2, e3, e4⟩ e k => ⟨p, xs, e1, e2, k p (by rw [e2]; simp) _ e3, fun z hz => let ⟨⟨a1, a2, a3⟩, vv, dv, a4, a5, a6⟩ := e4 z hz; ⟨⟨dpUp e _ _ a1, a2, a3⟩, vv, dv, a4, dpUp e _ _ a5, a6⟩⟩
/-- .. that knows the key d -/
def OMk (pr : Program) (w : World) (f : PyData → PyData → Prop) (d : PyData) : Own where
  holds := fun K F H v fp => ∃ p xs, v = .ref p ∧ fp = [p] ∧ H p = some (DxO pr w p xs) ∧ (atKey xs d).isSome = true ∧ ∀ e ∈ xs, KyD K F e.2.1 e.1 ∧ ∃ vv dv, RelV vv e.2.2 ∧ Dp K F vv dv ∧ f e.1 dv
  stay := fun ⟨p, xs, e1, e2, e3, e0, e4⟩ e k => ⟨p, xs, e1, e2, k p (by rw [e2]; simp) _ e3, e0, fun z hz => let ⟨⟨a1, a2, a3⟩, vv, dv, a4, a5, a6⟩ := e4 z hz; ⟨⟨dpUp e _ _ a1, a2, a3⟩, vv, dv, a4, dpUp e _ _ a5, a6⟩⟩
theorem OMk.le {pr : Program} {w : World} {f : PyData → PyData → Prop} {d : PyData} : OLe (OMk pr w f d) (OM pr w f) := fun K F H v fp ⟨p, xs, e1, e2, e3, _, e4⟩ => ⟨p, xs, e1, e2, e3, e4⟩
theorem ze_newM (f : PyData → PyData → Prop) : ZE X (.Dict [] [] pos) s (.r s.R.length) ⟨s.e, s.R ++ [OM X.prog X.w f]⟩ :=
  PE.imp pe_newX fun σ H Q ⟨T, ρ, g, k⟩ => fun p hp => by
    refine k _ (ρ ++ [.ref p]) _ (List.prefix_append _ _) g.newVR (Sat.tun ?_)
    obtain ⟨F, f1⟩ := g.ok.fz
    exact Sat.push (f1.newO hp ⟨p, [], rfl, rfl, upd_same, fun e he => by simp at he⟩) g.le g.lr g.al
theorem kyd {K : PySem.W.Frag} {H : Hp} {v : V} (h : Dp K H v (.tuple ds)) (k1 : kOK (.tuple ds) = true) (k2 : dep (.tuple ds) ≤ 8) : ∃ b, v = .ref b ∧ KyD K H b (.tuple ds) := by
  cases h with
  | tup hs ha => exact ⟨_, rfl, .tup hs ha, k1, k2⟩
theorem KyD.up {K : PySem.W.Frag} {F H : Hp} {a : Addr} {d : PyData} (e : Ext F H) (h : KyD K F a d) : KyD K H a d := ⟨dpUp e _ _ h.1, h.2.1, h.2.2⟩
theorem storedH_mem {xs : List DEn} {d : PyData} {b : Addr} {u : Value} {e : DEn} (h : e ∈ storedH xs d b u) : e ∈ xs ∨ e = (d, b, u) ∨ ∃ z ∈ xs, z.1 = d ∧ e = (d, z.2.1, u) := by
  unfold storedH at h
  split at h
  · obtain ⟨z, hz, e1⟩ := List.mem_map.mp h
    unfold putAt at e1
    split at e1
    · rename_i hd
      subst e1
      exact .inr (.inr ⟨z, hz, hd, by rw [hd]⟩)
    · subst e1
      exact .inl hz
  · rcases List.mem_append.mp h with h | h
    · exact .inl h
    · exact .inr (.inl (by simpa using h))
theorem storedH_has {xs : List DEn} {d : PyData} {b : Addr} {u : Value} : (atKey (storedH xs d b u) d).isSome = true := by
  unfold storedH
  split
  · rename_i h
    unfold atKey at h ⊢
    rw [Option.isSome_map] at h ⊢
    rw [List.find?_isSome] at h ⊢
    obtain ⟨z, hz, e⟩ := h
    refine ⟨putAt d u z, List.mem_map.mpr ⟨z, hz, rfl⟩, ?_⟩
    have e1 : z.1 = d := of_decide_eq_true e
    unfold putAt
    rw [if_pos e1]
    exact e
  · unfold atKey
    rw [Option.isSome_map, List.find?_isSome]
    exact ⟨(d, b, u), by simp, by simp⟩
/-- a memo among the objects -/
theorem Sat.memo {K : PySem.W.Frag} {pr : Program} {w : World} {f : PyData → PyData → Prop} {σ : L2.St} {ρ : List V} {T : List En} {H : Hp} {o : Nat} {v : V} {O : Own} (g : Sat K s σ ρ T H) (ho : s.R[o]? = some O) (hO : OLe O (OM pr w f)) (hv : ρ[o]? = some v) :
    ∃ F p xs, v = .ref p ∧ H p = some (DxO pr w p xs) ∧ Ext F H ∧ (∀ {x u}, (IT.d x, some u) ∈ T → Dp K F u x) ∧ (∀ e ∈ xs, KyD K F e.2.1 e.1 ∧ ∃ vv dv, RelV vv e.2.2 ∧ Dp K F vv dv ∧ f e.1 dv) ∧
      (∀ d, (atKey xs d).isSome = true → Sat K ⟨s.e, s.R.set o (OMk pr w f d)⟩ σ ρ T H) ∧ (∀ {x u}, Dp K F u x → Sat K s σ ρ ((IT.d x, some u) :: T) H) ∧
      ∀ d b u vv dv, KyD K F b d → RelV vv u → Dp K F vv dv → f d dv → Sat K ⟨s.e, s.R.set o (OMk pr w f d)⟩ σ ρ T (upd H p (DxO pr w p (storedH xs d b u))) := by
  obtain ⟨v', e2, ok, bk⟩ := g.obj ho
  have ev : v' = v := Option.some.inj (e2.symm.trans hv)
  subst ev
  obtain ⟨F, L, e1, g1⟩ := ok
  cases L with
  | nil => simp at e1
  | cons z L =>
    obtain ⟨z1, fp⟩ := z
    simp at e1
    obtain ⟨e3, e4⟩ := e1
    subst e3
    obtain ⟨u, e5, h0⟩ := g1.ent _ List.mem_cons_self
    have e5' : v' = u := Option.some.inj e5
    subst e5'
    obtain ⟨p, xs, h1, h2, h3, h4⟩ := hO _ _ _ _ _ h0
    have nd := g1.nd
    have ow := g1.own
    unfold fpsOf at nd ow
    rw [List.flatMap_cons] at nd ow
    obtain ⟨n1, n2, n3⟩ := List.nodup_append.mp nd
    have h2' : fp = [p] := h2
    subst h2'
    have fz : Fz K F (T ++ (ES s.e σ ++ (RS s.R ρ).set o (IT.un, some v'))) H := ⟨L, e4, g1.tail⟩
    refine ⟨F, p, xs, h1, h3, g1.ext, fun {x u} m => ?_, h4, fun d hd => bk H _ ⟨F, (((IT.o (OMk pr w f d), some v'), [p]) :: L), by rw [List.map_cons, e4], ?_⟩, fun {x u} hx => ?_, fun d b u vv dv hb hu hd hf => bk _ _ ⟨F, (((IT.o (OMk pr w f d), some v'), [p]) :: L), by rw [List.map_cons, e4], ?_⟩⟩
    · obtain ⟨u', e6, hd⟩ := fz.at (List.mem_append_left _ m)
      cases e6
      exact hd
    · exact g1.tail.oCons ⟨p, xs, h1, rfl, h3, hd, h4⟩ n1 (fun a ha hb => n3 a ha a hb rfl) fun a ha => ow a (List.mem_append_left _ ha)
    · have whole : Fz K F ((IT.o O, some v') :: (T ++ (ES s.e σ ++ (RS s.R ρ).set o (IT.un, some v')))) H := ⟨(((IT.o O, some v'), [p]) :: L), by rw [List.map_cons, e4], g1⟩
      have a1 := (whole.add hx).ok
      have a2 : OK K ((IT.o O, some v') :: (((IT.d x, some u) :: T) ++ (ES s.e σ ++ (RS s.R ρ).set o (IT.un, some v')))) H := a1.perm (List.Perm.swap _ _ _)
      have b := ZE.frz.back2 (T2 := (IT.d x, some u) :: T) g ho hv a2
      rw [set_self ho] at b
      exact b
    · refine g1.change (H' := upd H p (DxO pr w p (storedH xs d b u))) (Q := OMk pr w f d) ⟨p, _, h1, rfl, upd_same, storedH_has, fun e he => ?_⟩ (fun a o' ha e => ?_) fun a ha => ?_
      · rcases storedH_mem he with q | q | ⟨z, hz, q1, q2⟩
        · exact h4 e q
        · subst q
          exact ⟨hb, vv, dv, hu, hd, hf⟩
        · subst q2
          have := (h4 z hz).1
          rw [q1] at this
          exact ⟨this, vv, dv, hu, hd, hf⟩
      · rw [upd_ne (by simpa using ha)]; exact e
      · have e : a = p := by simpa using ha
        subst e
        exact ⟨_, upd_same⟩
variable {f : PyData → PyData → Prop} {o : Nat}
/-- key in memo, key not in memo -/
theorem zt_in (ho : s2.R[o]? = some (OM X.prog X.w f)) (ha : ZE X a s (.d (.tuple ds)) s1) (hb : ZE X b s1 (.r o) s2) (k1 : kOK (.tuple ds) = true) (k2 : dep (.tuple ds) ≤ 8) (hu : X.A.units + 20 < cLine) (hm : behindInMarks .In b = false := by rfl) :
    ZT X (.Compare a [.In] [b] pos) s (fun k t => t = if k = true then ⟨s2.e, s2.R.set o (OMk X.prog X.w f (.tuple ds))⟩ else s2) := by
  refine PT.imp (pt_cmpR (op_inX hu) ha hb hm) fun σ H Q ⟨T, ρ, g, q⟩ => ⟨T, ρ, g, fun u ρ1 H1 p1 vr1 g1 => ⟨_, ρ1, g1, fun w ρ2 H2 p2 vr2 g2 => ?_⟩⟩
  obtain ⟨F, p, xs, e1, hp, ex, dp, hx, kn, _, _⟩ := g2.memo ho (fun _ _ _ _ _ h => h) vr2
  subst e1
  obtain ⟨b', e2, hk⟩ := kyd (dp (x := .tuple ds) (u := u) (List.mem_cons_of_mem _ List.mem_cons_self)) k1 k2
  subst e2
  refine ⟨p, b', xs, _, rfl, rfl, hp, fun e he => (hx e he).1.up ex, hk.up ex, _, rfl, ?_⟩
  rw [if_neg Bool.false_ne_true]
  cases hc : (atKey xs (PyData.tuple ds)).isSome with
  | true => exact q true _ ρ2 H2 (if_pos rfl).symm (p1.trans p2) (kn _ hc).tdrop.tdrop
  | false => exact q false _ ρ2 H2 (if_neg Bool.false_ne_true).symm (p1.trans p2) g2.tdrop.tdrop
theorem zt_nin (ho : s2.R[o]? = some (OM X.prog X.w f)) (ha : ZE X a s (.d (.tuple ds)) s1) (hb : ZE X b s1 (.r o) s2) (k1 : kOK (.tuple ds) = true) (k2 : dep (.tuple ds) ≤ 8) (hu : X.A.units + 20 < cLine) (hm : behindInMarks .NotIn b = false := by rfl) :
    ZT X (.Compare a [.NotIn] [b] pos) s (fun k t => t = if k = true then s2 else ⟨s2.e, s2.R.set o (OMk X.prog X.w f (.tuple ds))⟩) := by
  refine PT.imp (pt_cmpR (op_ninX hu) ha hb hm) fun σ H Q ⟨T, ρ, g, q⟩ => ⟨T, ρ, g, fun u ρ1 H1 p1 vr1 g1 => ⟨_, ρ1, g1, fun w ρ2 H2 p2 vr2 g2 => ?_⟩⟩
  obtain ⟨F, p, xs, e1, hp, ex, dp, hx, kn, _, _⟩ := g2.memo ho (fun _ _ _ _ _ h => h) vr2
  subst e1
  obtain ⟨b', e2, hk⟩ := kyd (dp (x := .tuple ds) (u := u) (List.mem_cons_of_mem _ List.mem_cons_self)) k1 k2
  subst e2
  refine ⟨p, b', xs, _, rfl, rfl, hp, fun e he => (hx e he).1.up ex, hk.up ex, _, rfl, ?_⟩
  rw [if_pos rfl]
  cases hc : (atKey xs (PyData.tuple ds)).isSome with
  | true => exact q false _ ρ2 H2 (if_neg Bool.false_ne_true).symm (p1.trans p2) (kn _ hc).tdrop.tdrop
  | false => exact q true _ ρ2 H2 (if_pos rfl).symm (p1.trans p2) g2.tdrop.tdrop
/-- memo[key], the key there -/
theorem ze_memo (ho : s2.R[o]? = some (OMk X.prog X.w f (.tuple ds))) (hf : ∀ y, f (.tuple ds) y → y = x) (ha : ZE X a s (.r o) s1) (hb : ZE X b s1 (.d (.tuple ds)) s2) (k1 : kOK (.tuple ds) = true) (k2 : dep (.tuple ds) ≤ 8) (hu : X.A.units + 20 < cLine) (hs : PlainIx b := by intro _ _; rfl) :
    ZE X (.Subscript a b pos) s (.d x) ⟨s2.e, s2.R.set o (OM X.prog X.w f)⟩ := by
  refine PE.imp (pe_ix (ix_X hu) ha hb hs) fun σ H Q ⟨T, ρ, g, q⟩ => ⟨T, ρ, g, fun u ρ1 H1 p1 vr1 g1 => ⟨_, ρ1, g1, fun w ρ2 H2 p2 vr2 g2 => ?_⟩⟩
  obtain ⟨v0, e0, ok, bk⟩ := g2.obj ho
  have ev : v0 = u := Option.some.inj (e0.symm.trans (VR.mono (r := .r o) vr1 p2))
  subst ev
  obtain ⟨F, f1⟩ := ok.fz
  obtain ⟨u', fp, e3, p, xs, e4, e5, e6, e7, e8⟩ := f1.own List.mem_cons_self
  cases e3
  subst e4
  obtain ⟨w', e9, hd⟩ := f1.at (x := .tuple ds) (v := some w) (List.mem_cons_of_mem _ (List.mem_append_left _ List.mem_cons_self))
  cases e9
  obtain ⟨b', e10, hk⟩ := kyd hd k1 k2
  subst e10
  obtain ⟨⟨c, val⟩, hc⟩ := Option.isSome_iff_exists.mp e7
  -- the entry that was found
  have hm : (PyData.tuple ds, c, val) ∈ xs := by
    unfold atKey at hc
    obtain ⟨z, hz, e⟩ := Option.map_eq_some_iff.mp hc
    have h1 := List.mem_of_find?_eq_some hz
    have h0 := List.find?_some (p := fun x : DEn => decide (x.fst = PyData.tuple ds)) hz
    have h2 : z.1 = PyData.tuple ds := of_decide_eq_true h0
    rw [← h2, show (z.1, c, val) = z by rw [← e]]
    exact h1
  obtain ⟨_, vv, dv, r1, r2, r3⟩ := e8 _ hm
  have ed : dv = x := hf dv r3
  subst ed
  refine ⟨p, b', xs, _, c, val, vv, rfl, rfl, e6, fun e he => (e8 e he).1.up f1.ext, hk.up f1.ext, hc, r1, ?_⟩
  have g3 := (g2.wkO ho OMk.le)
  have hj : o < s2.R.length := (List.getElem?_eq_some_iff.mp ho).1
  -- the datum on top
  have a1 := (f1.add r2).ok
  have a2 : OK X.K ((IT.o (OMk X.prog X.w f (.tuple ds)), some (V.ref p)) :: (((IT.d dv, some vv) :: ((IT.d (.tuple ds), some (.ref b')) :: (itOf (SD.r o), some (V.ref p)) :: T)) ++ (ES s2.e σ ++ (RS s2.R ρ2).set o (IT.un, some (V.ref p))))) H2 := a1.perm (List.Perm.swap _ _ _)
  have b := ZE.frz.back2 (T2 := (IT.d dv, some vv) :: ((IT.d (.tuple ds), some (.ref b')) :: (itOf (SD.r o), some (V.ref p)) :: T)) g2 ho e0 a2
  rw [set_self ho] at b
  have b2 := b.wkO ho OMk.le
  refine q vv ρ2 H2 (p1.trans p2) trivial ?_
  exact (b2.tperm ((List.perm_append_comm (l₁ := [(IT.d dv, some vv)]) (l₂ := [(IT.d (.tuple ds), some (.ref b')), (itOf (SD.r o), some (V.ref p))])).append_right T)).tdrops (T1 := [(IT.d (.tuple ds), some (.ref b')), (itOf (SD.r o), some (V.ref p))])
/-- memo[key] = value -/
theorem zss_memo {tpos : Pos} {U : List PyData} (he : ZE X e s (.d x) s1) (ha : ZE X a s1 (.r o) s2) (hb : ZE X b s2 (.d (.tuple ds)) s3) (ho : s3.R[o]? = some (OM X.prog X.w f)) (hf : f (.tuple ds) x) (hU : ∀ k v, f k v → k ∈ U) (hz : U.length < sizeLine) (k1 : kOK (.tuple ds) = true) (k2 : dep (.tuple ds) ≤ 8) (hu : X.A.units + 20 < cLine)
    (k : ZSs X rest ⟨s3.e, s3.R.set o (OMk X.prog X.w f (.tuple ds))⟩ P)
    (hsub : ∀ v, assign (.Subscript a b tpos) X.env v = (do
      let ov ← holding [v] (eval a X.env)
      let iv ← holding [v, ov] (eval b X.env)
      standAt tpos
      holding [v, ov, iv] (setItem ov iv v)
      release [v, ov, iv] []) := by intro _; rfl)
    (hs : swapsWithSole [.Subscript a b tpos] e pos.line X.env = pure false := by rfl) (hw : swappedStores [.Subscript a b tpos] e X.env = pure none := by rfl) (h1 : (assignEach [.Subscript a b tpos] X.env).map (·.2) = [assign (.Subscript a b tpos) X.env] := by rfl) :
    ZSs X (.Assign [.Subscript a b tpos] e pos :: rest) s P := by
  refine zss_seq (M := fun t => t = ⟨s3.e, s3.R.set o (OMk X.prog X.w f (.tuple ds))⟩) (PS.imp (ps_asg he (pg_sub ha hb (put_X hu) hsub) hs hw h1) fun D σ H ⟨t, T, ρ, e1, hb0, g, q⟩ => ?_) fun t e => by subst e; exact k
  subst e1
  refine ⟨T, ρ, g, fun v ρ1 H1 p1 vr1 g1 => ⟨_, ρ1, g1, fun u ρ2 H2 p2 vr2 g2 => ⟨_, ρ2, g2, fun w ρ3 H3 p3 vr3 g3 => ?_⟩⟩⟩
  obtain ⟨F, p, xs, e1, hp, ex, dp, hx, kn, _, put⟩ := g3.memo ho (fun _ _ _ _ _ h => h) (VR.mono (r := .r o) vr2 p3)
  subst e1
  obtain ⟨b', e2, hk⟩ := kyd (dp (x := .tuple ds) (u := w) List.mem_cons_self) k1 k2
  subst e2
  have hv : Dp X.K F v x := dp (List.mem_cons_of_mem _ (List.mem_cons_of_mem _ List.mem_cons_self))
  refine ⟨p, b', xs, _, rfl, rfl, hp, fun e he => (hx e he).1.up ex, hk.up ex, ⟨U, hz, fun e he => let ⟨_, _, _, _, _, h⟩ := hx e he; hU _ _ h⟩, fun val rv => q.nx _ σ ρ3 _ rfl ((List.take_prefix _ _).trans ((p1.trans p2).trans p3)) (put _ b' val v x hk rv hv hf).tdrop.tdrop.tdrop⟩
end
end Z

namespace Z
open PySem L2 PyProof.Rows

/-! ### isinstance -/
def tyN : PyData → String
  | .none => "NoneType"
  | .bool _ => "bool"
  | .int _ => "int"
  | .str _ => "str"
  | .list _ => "list"
  | .tuple _ => "tuple"
  | .dict _ => "dict"
theorem sqL_ty {K : PySem.W.Frag} {H : Hp} {a : Addr} {xs : List V} (h : SqL K H a xs) : TyX K H (.ref a) (.type "list") := by
  rcases h with (h | ⟨o, h⟩) | ⟨o, its, n, hk, hc, _⟩
  · exact .base (.lst h)
  · exact .base (.frz h)
  · exact .kList hk hc
theorem sqT_ty {K : PySem.W.Frag} {H : Hp} {a : Addr} {xs : List V} (h : SqT K H a xs) : TyX K H (.ref a) (.type "tuple") := by
  rcases h with (h | ⟨o, h⟩) | ⟨o, its, n, hk, hc, _⟩
  · exact .base (.tup h)
  · exact .fTuple h
  · exact .kTuple hk hc
theorem dp_ty {K : PySem.W.Frag} {H : Hp} {v : V} {x : PyData} (h : Dp K H v x) : TyX K H v (.type (tyN x)) := by
  cases h with
  | non => exact .base .non
  | bl b => exact .base (.bl b)
  | int i => exact .base (.int i)
  | str y => exact .base (.str y)
  | lst hs ha => exact sqL_ty hs
  | tup hs ha => exact sqT_ty hs
section
variable {X : Cx} {e a b c : Expr} {es : List Expr} {s s' s1 s2 s3 : S} {r r1 r2 : SD} {rs : List SD} {pos p q : Pos} {k : Bool} {x y z : PyData} {ds : List PyData} {T : Str} {n : String}
theorem ze_isi (w : Vw s1 r x) (hk : kitB (tyN x) n = some k) (ha : ZE X a s r s1) (hm : X.mg "isinstance" = none) (hmT : X.mg T = none) (hv : bootBuiltins T = some (.type n) := by decide +kernel) (hg : Gl X T := by rfl) (hc : Cl X "isinstance" a [.Name T q] pos := by exact ⟨rfl, rfl, rfl⟩)
    (hs : starEach [Expr.Name T q] X.env = [(false, eval (.Name T q) X.env)] := by rfl) (hn : T ≠ "__name__" := by decide) (hd : (T == ("__debug__" : Str)) = false := by decide) :
    ZE X (.Call (.Name "isinstance" p) [a, .Name T q] [] pos) s (.d (.bool k)) s1 := by
  refine PE.imp (pe_callB call_isi hc.1 hm (by decide +kernel) (pa_cons ha (pa_cons (pe_bltn hg hmT hv (v := .ty n) rfl hn hd) pa_nil hs) hc.2.1) (by decide) (by decide) hc.2.1 hc.2.2) fun σ H Q ⟨T, ρ, g, q⟩ => ⟨T, ρ, g, fun v ρ' H' p vr g' => ?_⟩
  have d := g'.see List.mem_cons_self vr w
  exact ⟨_, _, _, _, k, rfl, .ty n, dp_ty d, kit_ty hk, q _ ρ' H' p trivial (g'.tdrop.tflat (show flat (.bl k) (.bool k) from rfl))⟩
theorem zt_isi (w : Vw s1 r x) (hk : kitB (tyN x) n = some k) (ha : ZE X a s r s1) (hm : X.mg "isinstance" = none) (hmT : X.mg T = none) (hv : bootBuiltins T = some (.type n) := by decide +kernel) (hg : Gl X T := by rfl) (hc : Cl X "isinstance" a [.Name T q] pos := by exact ⟨rfl, rfl, rfl⟩)
    (hs : starEach [Expr.Name T q] X.env = [(false, eval (.Name T q) X.env)] := by rfl) (hn : T ≠ "__name__" := by decide) (hd : (T == ("__debug__" : Str)) = false := by decide) :
    ZT X (.Call (.Name "isinstance" p) [a, .Name T q] [] pos) s (Is k s1) := zt_tru (ze_isi w hk ha hm hmT hv hg hc hs hn hd) (.d _) trivial
def isTup : PyData → Bool | .tuple _ => true | _ => false
def isLst : PyData → Bool | .list _ => true | _ => false
def isBl : PyData → Bool | .bool _ => true | _ => false
def isInt : PyData → Bool | .bool _ => true | .int _ => true | _ => false
def isStr : PyData → Bool | .str _ => true | _ => false
def isNon : PyData → Bool | .none => true | _ => false
theorem kit_tup (x : PyData) : kitB (tyN x) "tuple" = some (isTup x) := by
  have h : kitB "NoneType" "tuple" = some (isTup .none) ∧ kitB "bool" "tuple" = some (isTup (.bool true)) ∧ kitB "int" "tuple" = some (isTup (.int 0)) ∧ kitB "str" "tuple" = some (isTup (.str (Str.ofString ""))) ∧ kitB "list" "tuple" = some (isTup (.list [])) ∧ kitB "tuple" "tuple" = some (isTup (.tuple [])) ∧ kitB "dict" "tuple" = some (isTup (.dict [])) := by decide +kernel
  obtain ⟨h1, h2, h3, h4, h5, h6, h7⟩ := h
  cases x <;> first | exact h1 | exact h2 | exact h3 | exact h4 | exact h5 | exact h6 | exact h7
theorem kit_lst (x : PyData) : kitB (tyN x) "list" = some (isLst x) := by
  have h : kitB "NoneType" "list" = some (isLst .none) ∧ kitB "bool" "list" = some (isLst (.bool true)) ∧ kitB "int" "list" = some (isLst (.int 0)) ∧ kitB "str" "list" = some (isLst (.str (Str.ofString ""))) ∧ kitB "list" "list" = some (isLst (.list [])) ∧ kitB "tuple" "list" = some (isLst (.tuple [])) ∧ kitB "dict" "list" = some (isLst (.dict [])) := by decide +kernel
  obtain ⟨h1, h2, h3, h4, h5, h6, h7⟩ := h
  cases x <;> first | exact h1 | exact h2 | exact h3 | exact h4 | exact h5 | exact h6 | exact h7
theorem kit_bl (x : PyData) : kitB (tyN x) "bool" = some (isBl x) := by
  have h : kitB "NoneType" "bool" = some (isBl .none) ∧ kitB "bool" "bool" = some (isBl (.bool true)) ∧ kitB "int" "bool" = some (isBl (.int 0)) ∧ kitB "str" "bool" = some (isBl (.str (Str.ofString ""))) ∧ kitB "list" "bool" = some (isBl (.list [])) ∧ kitB "tuple" "bool" = some (isBl (.tuple [])) ∧ kitB "dict" "bool" = some (isBl (.dict [])) := by decide +kernel
  obtain ⟨h1, h2, h3, h4, h5, h6, h7⟩ := h
  cases x <;> first | exact h1 | exact h2 | exact h3 | exact h4 | exact h5 | exact h6 | exact h7
theorem kit_int (x : PyData) : kitB (tyN x) "int" = some (isInt x) := by
  have h : kitB "NoneType" "int" = some (isInt .none) ∧ kitB "bool" "int" = some (isInt (.bool true)) ∧ kitB "int" "int" = some (isInt (.int 0)) ∧ kitB "str" "int" = some (isInt (.str (Str.ofString ""))) ∧ kitB "list" "int" = some (isInt (.list [])) ∧ kitB "tuple" "int" = some (isInt (.tuple [])) ∧ kitB "dict" "int" = some (isInt (.dict [])) := by decide +kernel
  obtain ⟨h1, h2, h3, h4, h5, h6, h7⟩ := h
  cases x <;> first | exact h1 | exact h2 | exact h3 | exact h4 | exact h5 | exact h6 | exact h7
theorem kit_str (x : PyData) : kitB (tyN x) "str" = some (isStr x) := by
  have h : kitB "NoneType" "str" = some (isStr .none) ∧ kitB "bool" "str" = some (isStr (.bool true)) ∧ kitB "int" "str" = some (isStr (.int 0)) ∧ kitB "str" "str" = some (isStr (.str (Str.ofString ""))) ∧ kitB "list" "str" = some (isStr (.list [])) ∧ kitB "tuple" "str" = some (isStr (.tuple [])) ∧ kitB "dict" "str" = some (isStr (.dict [])) := by decide +kernel
  obtain ⟨h1, h2, h3, h4, h5, h6, h7⟩ := h
  cases x <;> first | exact h1 | exact h2 | exact h3 | exact h4 | exact h5 | exact h6 | exact h7

/-! ### is None -/
theorem zt_isN {j : Nat} {p' : Pos} (w : Vw s1 r x) (ha : ZE X a s r s1) : ZT X (.Compare a [.Is] [.Constant .none j p'] pos) s (Is (isNon x) s1) := by
  refine PT.imp (pt_cmp (pc_isN ha) (by rfl)) fun σ H Q ⟨T, ρ, g, q⟩ => ?_
  exact ⟨T, ρ, g, fun v ρ' H' p vr g' => ⟨_, rfl, by
    have d := g'.see List.mem_cons_self vr w
    refine q _ s1 ρ' H' ⟨?_, rfl⟩ p g'.tdrop
    cases d <;> first | rfl | exact decide_eq_false (fun e => nomatch e)⟩⟩
theorem ze_isN {j : Nat} {p' : Pos} (w : Vw s1 r x) (ha : ZE X a s r s1) : ZE X (.Compare a [.Is] [.Constant .none j p'] pos) s (.d (.bool (isNon x))) s1 := by
  refine PE.imp (pe_cmp (pc_isN ha) (by rfl)) fun σ H Q ⟨T, ρ, g, q⟩ => ?_
  exact ⟨T, ρ, g, fun v ρ' H' p vr g' => by
    have d := g'.see List.mem_cons_self vr w
    have e : decide (v = .non) = isNon x := by cases d <;> first | rfl | exact decide_eq_false (fun e => nomatch e)
    show Q (.bl (decide (v = .non))) H'
    rw [e]
    exact q _ ρ' H' p trivial (g'.tdrop.tflat (show flat (.bl _) (.bool _) from rfl))⟩
theorem zt_notN {j : Nat} {p' : Pos} (w : Vw s1 r x) (ha : ZE X a s r s1) : ZT X (.Compare a [.IsNot] [.Constant .none j p'] pos) s (Is (!isNon x) s1) := by
  refine PT.imp (pt_cmp (pc_notN ha) (by rfl)) fun σ H Q ⟨T, ρ, g, q⟩ => ?_
  exact ⟨T, ρ, g, fun v ρ' H' p vr g' => ⟨_, rfl, by
    have d := g'.see List.mem_cons_self vr w
    refine q _ s1 ρ' H' ⟨?_, rfl⟩ p g'.tdrop
    cases d <;> first | rfl | (exact congrArg (!·) (decide_eq_false (fun e => nomatch e)))⟩⟩

/-! ### all, any -/
theorem dps_bl {K : PySem.W.Frag} {F : Hp} : ∀ {bs : List Bool} {vs : List V}, DpAll K F vs (bs.map .bool) → vs = bs.map V.bl
  | [], _, h => by cases h; rfl
  | b :: bs, _, h => by
    cases h with
    | cons h1 h2 => cases h1; rw [dps_bl h2]; rfl
theorem ze_all {bs : List Bool} (w : Vw s1 r (.list (bs.map .bool))) (ha : ZA X [a] s [r] s1) (hm : X.mg "all" = none) (hk : X.calm = true := by rfl) (c : Cl X "all" a [] pos := by exact ⟨rfl, rfl, rfl⟩) : ZE X (.Call (.Name "all" p) [a] [] pos) s (.d (.bool (bs.all id))) s1 :=
  ze_callB (cr_all hk) (by decide +kernel) ha hm c (ca1 fun u T σ ρ H Q g vr k => by
    obtain ⟨F, p, vs, e1, hs, hd, _⟩ := g.seeL List.mem_cons_self vr w
    subst e1
    have := dps_bl hd
    subst this
    exact ⟨p, bs, rfl, hs, k _ ρ H (pre_refl ρ) trivial (g.tdrop.tflat (show flat (.bl _) (.bool _) from rfl))⟩)
theorem ze_any {bs : List Bool} (w : Vw s1 r (.list (bs.map .bool))) (ha : ZA X [a] s [r] s1) (hm : X.mg "any" = none) (hk : X.calm = true := by rfl) (c : Cl X "any" a [] pos := by exact ⟨rfl, rfl, rfl⟩) : ZE X (.Call (.Name "any" p) [a] [] pos) s (.d (.bool (bs.any id))) s1 :=
  ze_callB (cr_any hk) (by decide +kernel) ha hm c (ca1 fun u T σ ρ H Q g vr k => by
    obtain ⟨F, p, vs, e1, hs, hd, _⟩ := g.seeL List.mem_cons_self vr w
    subst e1
    have := dps_bl hd
    subst this
    exact ⟨p, bs, rfl, hs, k _ ρ H (pre_refl ρ) trivial (g.tdrop.tflat (show flat (.bl _) (.bool _) from rfl))⟩)

/-! ### x in a list, a tuple -/
def rInZ (K : PySem.W.Frag) (u : Nat) (neg : Bool) : R2 := fun x y H Q => ∃ d c ds, Dp K H x d ∧ Dp K H y c ∧ (c = .list ds ∨ c = .tuple ds) ∧ PyData.plainAll ds = true ∧ d.plain = true ∧ u + 1 + min (PyData.depthAll ds) d.depth < cLine ∧ Q (.bl (if neg then !(ds.any fun z => PyData.eqv z d) else ds.any fun z => PyData.eqv z d)) H
theorem op_inZ : OpR X (compareOp .In) (rInZ X.K X.A.units false) := by
  intro pins s σ H x y v u Q I rx ry h
  obtain ⟨d, c, ds, hd, hc, e, p1, p2, hu, q⟩ := h
  obtain ⟨as, r1⟩ := Dp.reads I d x v hd rx
  obtain ⟨bs, r2⟩ := Dp.reads I c y u hc ry
  rcases e with e | e
  · subst e
    exact SeqAt.in_list_data r2 r1 p1 p2 hu ⟨.bl _, H, I, rfl, q⟩
  · subst e
    exact SeqAt.in_tuple_data r2 r1 p1 p2 hu ⟨.bl _, H, I, rfl, q⟩
theorem op_ninZ : OpR X (compareOp .NotIn) (rInZ X.K X.A.units true) := by
  intro pins s σ H x y v u Q I rx ry h
  obtain ⟨d, c, ds, hd, hc, e, p1, p2, hu, q⟩ := h
  obtain ⟨as, r1⟩ := Dp.reads I d x v hd rx
  obtain ⟨bs, r2⟩ := Dp.reads I c y u hc ry
  rcases e with e | e
  · subst e
    exact SeqAt.notIn_list_data r2 r1 p1 p2 hu ⟨.bl _, H, I, rfl, q⟩
  · subst e
    exact SeqAt.notIn_tuple_data r2 r1 p1 p2 hu ⟨.bl _, H, I, rfl, q⟩
theorem zt_inZ {c : PyData} {rb : SD} (w1 : Vw s2 r x) (w2 : Vw s2 rb c) (hc : c = .list ds ∨ c = .tuple ds) (ha : ZE X a s r s1) (hb : ZE X b s1 rb s2) (p1 : PyData.plainAll ds = true) (p2 : x.plain = true) (hu : X.A.units + 1 + min (PyData.depthAll ds) x.depth < cLine) (hm : behindInMarks .In b = false := by rfl) :
    ZT X (.Compare a [.In] [b] pos) s (Is (ds.any fun z => PyData.eqv z x) s2) :=
  zt_cmp op_inZ ha hb (fun u w T σ ρ H Q g va vb k => ⟨x, c, ds, g.see (List.mem_cons_of_mem _ List.mem_cons_self) va w1, g.see List.mem_cons_self vb w2, hc, p1, p2, hu, k _ ρ H (pre_refl ρ) trivial (g.tdrop.tdrop.tflat (show flat (.bl _) (.bool _) from rfl))⟩) hm
theorem zt_ninZ {c : PyData} {rb : SD} (w1 : Vw s2 r x) (w2 : Vw s2 rb c) (hc : c = .list ds ∨ c = .tuple ds) (ha : ZE X a s r s1) (hb : ZE X b s1 rb s2) (p1 : PyData.plainAll ds = true) (p2 : x.plain = true) (hu : X.A.units + 1 + min (PyData.depthAll ds) x.depth < cLine) (hm : behindInMarks .NotIn b = false := by rfl) :
    ZT X (.Compare a [.NotIn] [b] pos) s (Is (!(ds.any fun z => PyData.eqv z x)) s2) :=
  zt_cmp op_ninZ ha hb (fun u w T σ ρ H Q g va vb k => ⟨x, c, ds, g.see (List.mem_cons_of_mem _ List.mem_cons_self) va w1, g.see List.mem_cons_self vb w2, hc, p1, p2, hu, k _ ρ H (pre_refl ρ) trivial (g.tdrop.tdrop.tflat (show flat (.bl _) (.bool _) from rfl))⟩) hm

/-! ### == and != of data without dicts -/
def rEqZ (K : PySem.W.Frag) (u : Nat) (neg : Bool) : R2 := fun x y H Q => ∃ d c, Dp K H x d ∧ Dp K H y c ∧ d.plain = true ∧ c.plain = true ∧ u + min d.depth c.depth < cLine ∧ Q (.bl (if neg then !PyData.eqv d c else PyData.eqv d c)) H
theorem op_eqZ : OpR X (compareOp .Eq) (rEqZ X.K X.A.units false) := by
  intro pins s σ H x y v u Q I rx ry h
  obtain ⟨d, c, hd, hc, p1, p2, hu, q⟩ := h
  obtain ⟨as, r1⟩ := Dp.reads I d x v hd rx
  obtain ⟨bs, r2⟩ := Dp.reads I c y u hc ry
  exact SeqAt.eq_plain r1 r2 p1 p2 hu ⟨.bl _, H, I, rfl, q⟩
theorem op_neZ : OpR X (compareOp .NotEq) (rEqZ X.K X.A.units true) := by
  intro pins s σ H x y v u Q I rx ry h
  obtain ⟨d, c, hd, hc, p1, p2, hu, q⟩ := h
  obtain ⟨as, r1⟩ := Dp.reads I d x v hd rx
  obtain ⟨bs, r2⟩ := Dp.reads I c y u hc ry
  exact SeqAt.ne_plain r1 r2 p1 p2 hu ⟨.bl _, H, I, rfl, q⟩
theorem bi_eqZ {neg : Bool} {ra rb : SD} (w1 : Vw s ra x) (w2 : Vw s rb y) (p1 : x.plain = true) (p2 : y.plain = true) (hu : X.A.units + min x.depth y.depth < cLine) : Bi X.K (rEqZ X.K X.A.units neg) s ra rb (.d (.bool (if neg then !PyData.eqv x y else PyData.eqv x y))) s := fun u w T σ ρ H Q g va vb k =>
  ⟨x, y, g.see (List.mem_cons_of_mem _ List.mem_cons_self) va w1, g.see List.mem_cons_self vb w2, p1, p2, hu, k _ ρ H (pre_refl ρ) trivial (g.tdrop.tdrop.tflat (show flat (.bl _) (.bool _) from rfl))⟩
theorem ze_eqP {rb : SD} (w1 : Vw s2 r x) (w2 : Vw s2 rb y) (ha : ZE X a s r s1) (hb : ZE X b s1 rb s2) (p1 : x.plain = true) (p2 : y.plain = true) (hu : X.A.units + min x.depth y.depth < cLine) : ZE X (.Compare a [.Eq] [b] pos) s (.d (.bool (PyData.eqv x y))) s2 := ze_cmp op_eqZ ha hb (bi_eqZ (neg := false) w1 w2 p1 p2 hu) (nomark _)
theorem ze_neP {rb : SD} (w1 : Vw s2 r x) (w2 : Vw s2 rb y) (ha : ZE X a s r s1) (hb : ZE X b s1 rb s2) (p1 : x.plain = true) (p2 : y.plain = true) (hu : X.A.units + min x.depth y.depth < cLine) : ZE X (.Compare a [.NotEq] [b] pos) s (.d (.bool (!PyData.eqv x y))) s2 := ze_cmp op_neZ ha hb (bi_eqZ (neg := true) w1 w2 p1 p2 hu) (nomark _)
theorem zt_eqP {rb : SD} (w1 : Vw s2 r x) (w2 : Vw s2 rb y) (ha : ZE X a s r s1) (hb : ZE X b s1 rb s2) (p1 : x.plain = true) (p2 : y.plain = true) (hu : X.A.units + min x.depth y.depth < cLine) : ZT X (.Compare a [.Eq] [b] pos) s (Is (PyData.eqv x y) s2) := zt_cmp op_eqZ ha hb (bi_eqZ (neg := false) w1 w2 p1 p2 hu) (nomark _)
theorem zt_neP {rb : SD} (w1 : Vw s2 r x) (w2 : Vw s2 rb y) (ha : ZE X a s r s1) (hb : ZE X b s1 rb s2) (p1 : x.plain = true) (p2 : y.plain = true) (hu : X.A.units + min x.depth y.depth < cLine) : ZT X (.Compare a [.NotEq] [b] pos) s (Is (!PyData.eqv x y) s2) := zt_cmp op_neZ ha hb (bi_eqZ (neg := true) w1 w2 p1 p2 hu) (nomark _)

theorem roomE {A : Around} (hu : A.units + 64 < cLine) (h : min x.depth y.depth ≤ 64) : A.units + min x.depth y.depth < cLine := by omega
theorem ce_int {i j : Int} {op : CmpOp} {pr : Int → Int → Bool} (h : ∀ {ta tb : TE}, PE X a ta → PE X b tb → PC X op a b (tCmp pr ta tb)) (ha : ZE X a s (.d (.int i)) s1) (hb : ZE X b s1 (.d (.int j)) s2) (hm : behindInMarks op b = false) : ZE X (.Compare a [op] [b] pos) s (.d (.bool (pr i j))) s2 := by
  refine PE.imp (pe_cmp (h ha hb) hm) fun σ H Q ⟨T, ρ, g, q⟩ => ?_
  exact ⟨T, ρ, g, fun v ρ' H' p vr g' => ⟨_, ρ', g', fun v2 ρ2 H2 p2 vr2 g2 => by
    have e1 := see_int (i := j) (v := v2) g2 List.mem_cons_self
    have e2 := see_int (i := i) (v := v) g2 (List.mem_cons_of_mem _ List.mem_cons_self)
    exact ⟨i, j, e2, e1, q _ ρ2 H2 (p.trans p2) trivial (g2.tdrop.tdrop.tflat (show flat (.bl _) (.bool _) from rfl))⟩⟩⟩
theorem ze_eqI {i j : Int} (ha : ZE X a s (.d (.int i)) s1) (hb : ZE X b s1 (.d (.int j)) s2) : ZE X (.Compare a [.Eq] [b] pos) s (.d (.bool (decide (i = j)))) s2 := ce_int (pr := fun i j => decide (i = j)) pc_eqI ha hb (nomark _)
theorem ze_neI {i j : Int} (ha : ZE X a s (.d (.int i)) s1) (hb : ZE X b s1 (.d (.int j)) s2) : ZE X (.Compare a [.NotEq] [b] pos) s (.d (.bool (!decide (i = j)))) s2 := ce_int (pr := fun i j => !decide (i = j)) pc_neI ha hb (nomark _)
theorem ct_int {i j : Int} {op : CmpOp} {pr : Int → Int → Bool} (h : ∀ {ta tb : TE}, PE X a ta → PE X b tb → PC X op a b (tCmp pr ta tb)) (ha : ZE X a s (.d (.int i)) s1) (hb : ZE X b s1 (.d (.int j)) s2) (hm : behindInMarks op b = false) : ZT X (.Compare a [op] [b] pos) s (Is (pr i j) s2) := by
  refine PT.imp (pt_cmp (h ha hb) hm) fun σ H Q ⟨T, ρ, g, q⟩ => ?_
  exact ⟨T, ρ, g, fun v ρ' H' p vr g' => ⟨_, ρ', g', fun v2 ρ2 H2 p2 vr2 g2 => by
    have e1 := see_int (i := j) (v := v2) g2 List.mem_cons_self
    have e2 := see_int (i := i) (v := v) g2 (List.mem_cons_of_mem _ List.mem_cons_self)
    exact ⟨i, j, e2, e1, _, rfl, q _ s2 ρ2 H2 ⟨rfl, rfl⟩ (p.trans p2) g2.tdrop.tdrop⟩⟩⟩
theorem zt_eqI {i j : Int} (ha : ZE X a s (.d (.int i)) s1) (hb : ZE X b s1 (.d (.int j)) s2) : ZT X (.Compare a [.Eq] [b] pos) s (Is (decide (i = j)) s2) := ct_int (pr := fun i j => decide (i = j)) pc_eqI ha hb (nomark _)
theorem zt_neI {i j : Int} (ha : ZE X a s (.d (.int i)) s1) (hb : ZE X b s1 (.d (.int j)) s2) : ZT X (.Compare a [.NotEq] [b] pos) s (Is (!decide (i = j)) s2) := ct_int (pr := fun i j => !decide (i = j)) pc_neI ha hb (nomark _)

/-! ### sorted -/
def srt (ds : List PyData) : List PyData := ds.mergeSort (PySem.W.dataLe false id)
def rSrt (K : PySem.W.Frag) (u : Nat) : List V → Hp → VK → Prop := fun vs H Q => ∃ a F xs ds, vs = [V.ref a] ∧ SqL K H a xs ∧ Ext F H ∧ DpAll K F xs ds ∧ PySem.W.AllAlike ds ∧ PySem.W.Sortable ds ∧ (∀ d ∈ ds, u + 2 + d.depth < cLine) ∧
  ∀ p ys, H p = none → DpAll K F ys (srt ds) → Q (.ref p) (upd H p (.lst ys))
theorem dps_zip {K : PySem.W.Frag} {F : Hp} : ∀ {xs : List V} {ds : List PyData}, DpAll K F xs ds → ∀ z ∈ xs.zip ds, Dp K F z.1 z.2
  | _, _, .nil, z, h => by cases h
  | _, _, .cons h1 h2, z, h => by
    rcases List.mem_cons.mp h with e | h
    · subst e; exact h1
    · exact dps_zip h2 z h
theorem dps_of_zip {K : PySem.W.Frag} {F : Hp} : ∀ {zs : List (V × PyData)}, (∀ z ∈ zs, Dp K F z.1 z.2) → DpAll K F (zs.map (·.1)) (zs.map (·.2))
  | [], _ => .nil
  | z :: zs, h => .cons (h z List.mem_cons_self) (dps_of_zip fun y hy => h y (List.mem_cons_of_mem _ hy))
theorem vals_zip : ∀ {xs : List V} {us : List Value} {ds : List PyData}, xs.length = ds.length → Vals xs us → PySem.W.EachIs (fun u (z : V × PyData) => RelV z.1 u) us (xs.zip ds)
  | _, _, [], h, .nil => .nil
  | _, _, _ :: _, h, .nil => by cases h
  | _, _, [], h, .cons _ _ => by cases h
  | _, _, d :: ds, h, .cons r t => .cons r (vals_zip (Nat.succ.inj h) t)
theorem zip_vals : ∀ {us : List Value} {zs : List (V × PyData)}, PySem.W.EachIs (fun u (z : V × PyData) => RelV z.1 u) us zs → Vals (zs.map (·.1)) us
  | _, _, .nil => .nil
  | _, _, .cons r t => .cons r (zip_vals t)
theorem snd_zip {α β : Type} : ∀ {xs : List α} {ys : List β}, xs.length = ys.length → (xs.zip ys).map (·.2) = ys
  | [], [], _ => rfl
  | _ :: _, [], h => by cases h
  | [], _ :: _, h => by cases h
  | x :: xs, y :: ys, h => by
    rw [List.zip_cons_cons, List.map_cons, snd_zip (Nat.succ.inj h)]
theorem each_imp {α β : Type} {R R' : α → β → Prop} : ∀ {as : List α} {bs : List β}, PySem.W.EachIs R as bs → (∀ a b, b ∈ bs → R a b → R' a b) → PySem.W.EachIs R' as bs
  | _, _, .nil, _ => .nil
  | _, _, .cons h t, k => .cons (k _ _ List.mem_cons_self h) (each_imp t fun a b hb => k a b (List.mem_cons_of_mem _ hb))
theorem cr_srt : CallR X (.builtin "sorted") (rSrt X.K X.A.units) := by
  intro pins s σ H vs us Q I r h
  obtain ⟨a, F, xs, ds, rfl, hs, hF, hd, al, so, hu, q⟩ := h
  obtain ⟨its, rv, hl, hz⟩ := I.list hs
  rw [Vals.ref1 r]
  have hlen := dpsLen hd
  have e := vals_zip (ds := ds) hlen rv
  have hsnd : (xs.zip ds).map (fun z => z.2) = ds := snd_zip hlen
  have er : PySem.W.EachIs (fun u (z : V × PyData) => ∃ as, Reads s.heap u z.2 as) its (xs.zip ds) := each_imp e fun u z hm hr => Dp.reads I z.2 z.1 u (dpUp hF _ _ (dps_zip hd z hm)) hr
  refine PySem.W.sorted_data (R := fun u (z : V × PyData) => RelV z.1 u) (enc := fun z : V × PyData => z.2) hl.isList e er (by rw [hsnd]; exact al) (by rw [hsnd]; exact so) ?_ (fun z hm => ?_) fun out ho eo => ?_
  · have h1 := congrArg List.length hsnd
    rw [List.length_map] at h1
    omega
  · exact hu _ (by rw [← hsnd]; exact List.mem_map.mpr ⟨z, hm, rfl⟩)
  · obtain ⟨ep, he'⟩ := PyProof.Rows.sortedAll_at s.heap its out.toArray
    have hl2 : (((xs.zip ds).mergeSort (PySem.W.dataLe false fun z => z.2)).map (·.1)).length ≤ sizeLine := by
      have h1 := congrArg List.length hsnd
      rw [List.length_map] at h1
      rw [List.length_map, List.length_mergeSort]
      omega
    refine ⟨.ref _, upd H (s.heap.objs.size + 1) (.lst (((xs.zip ds).mergeSort (PySem.W.dataLe false fun z => z.2)).map (·.1))), I.laid (t' := s.toks) (fun _ _ => PyProof.Rows.sortedAll_old) (Nat.le_succ _) ⟨hl2, out, ep, zip_vals eo, he'⟩, rfl, q _ _ (I.hok.fresh (Nat.le_succ _)) ?_⟩
    have h2 : srt ds = ((xs.zip ds).mergeSort (PySem.W.dataLe false fun z => z.2)).map (·.2) := by
      have h3 := List.map_mergeSort (r := PySem.W.dataLe false fun z : V × PyData => z.2) (s := PySem.W.dataLe false id) (f := fun z : V × PyData => z.2) (l := xs.zip ds) (fun _ _ _ _ => rfl)
      rw [hsnd] at h3
      exact h3.symm
    rw [h2]
    exact dps_of_zip fun z hm => dps_zip hd z ((List.mergeSort_perm _ _).mem_iff.mp hm)
theorem ze_sorted (w : Vw s1 r (.list ds)) (ha : ZA X [a] s [r] s1) (al : PySem.W.AllAlike ds) (so : PySem.W.Sortable ds) (hu : ∀ d ∈ ds, X.A.units + 2 + d.depth < cLine) (hm : X.mg "sorted" = none) (c : Cl X "sorted" a [] pos := by exact ⟨rfl, rfl, rfl⟩) : ZE X (.Call (.Name "sorted" p) [a] [] pos) s (.d (.list (srt ds))) s1 :=
  ze_callB cr_srt (by decide +kernel) ha hm c (ca1 fun u T σ ρ H Q g vr k => by
    obtain ⟨F, p, vs, e1, hs, hd, f⟩ := g.seeL List.mem_cons_self vr w
    subst e1
    exact ⟨p, F, vs, ds, rfl, hs, f.ext, hd, al, so, hu, fun l ys hl hy => k _ ρ _ (pre_refl ρ) trivial (g.out1 (f.lstD hy hl))⟩)
theorem srt_perm (ds : List PyData) : (srt ds).Perm ds := List.mergeSort_perm _ _
end
end Z

namespace Z
open PySem L2 PyProof.Rows

/-! ### own things by what may be done with them -/
/-- reading item i gives z; .. gives the reference c; so many items; setting item i; taking the first -/
def IxO (O : Own) (i : Int) (z : V) : Prop := ∀ K F H v fp, O.holds K F H v fp → ∃ a xs, v = .ref a ∧ H a = some (.lst xs) ∧ atI xs i = some z
def LenO (O : Own) (n : Nat) : Prop := ∀ K F H v fp, O.holds K F H v fp → ∃ a xs, v = .ref a ∧ H a = some (.lst xs) ∧ xs.length = n
def PutO (O : Own) (i : Int) (z : V) (O' : Own) : Prop := ∀ K F H v fp, O.holds K F H v fp → ∃ a xs j, v = .ref a ∧ a ∈ fp ∧ H a = some (.lst xs) ∧ ixN xs.length i = some j ∧ O'.holds K F (upd H a (.lst (xs.set j z))) v fp
def PopO (O : Own) (z : V) (O' : Own) : Prop := ∀ K F H v fp, O.holds K F H v fp → ∃ a xs, v = .ref a ∧ a ∈ fp ∧ H a = some (.lst xs) ∧ xs[0]? = some z ∧ O'.holds K F (upd H a (.lst (xs.eraseIdx 0))) v fp
section
variable {X : Cx} {e a b c : Expr} {es : List Expr} {st : Stmt} {rest body : List Stmt} {s s' s1 s2 s3 : S} {r : SD} {rs : List SD} {pos p : Pos} {P : Po} {x y : PyData} {i j : Int} {o n : Nat} {O O' : Own}
/-- an object of the store, to be changed -/
theorem Sat.mut {K : PySem.W.Frag} {σ : L2.St} {ρ : List V} {T : List En} {H : Hp} {v : V} (g : Sat K s σ ρ T H) (ho : s.R[o]? = some O) (hv : ρ[o]? = some v) :
    ∃ F fp, O.holds K F H v fp ∧ (∀ a ∈ fp, ∃ u, H a = some u) ∧ ∀ (Q : Own) (H' : Hp), Q.holds K F H' v fp → (∀ a u, a ∉ fp → H a = some u → H' a = some u) → (∀ a ∈ fp, ∃ u, H' a = some u) → Sat K ⟨s.e, s.R.set o Q⟩ σ ρ T H' := by
  obtain ⟨v', e2, ok, bk⟩ := g.obj ho
  have ev : v' = v := Option.some.inj (e2.symm.trans hv)
  subst ev
  obtain ⟨F, L, e1, g1⟩ := ok
  cases L with
  | nil => simp at e1
  | cons z L =>
    obtain ⟨z1, fp⟩ := z
    simp at e1
    obtain ⟨e3, e4⟩ := e1
    subst e3
    obtain ⟨u, e5, h0⟩ := g1.ent _ List.mem_cons_self
    have e5' : v' = u := Option.some.inj e5
    subst e5'
    exact ⟨F, fp, h0, fun a ha => (g1.own a (mem_fps.mpr ⟨_, List.mem_cons_self, ha⟩)).2, fun Q H' hq k t => bk _ _ ⟨F, (((IT.o Q, some v'), fp) :: L), by rw [List.map_cons, e4], g1.change hq k t⟩⟩
theorem bi_ixO {z : V} {d : PyData} (ho : s.R[o]? = some O) (h : IxO O i z) (f : flat z d) : Bi X.K (rIxL X.K) s (.r o) (.d (.int i)) (.d d) s := fun u w T σ ρ H Q g va vb k => by
  have e1 := see_int (i := i) (v := w) g List.mem_cons_self
  subst e1
  obtain ⟨F, fp, hh, _⟩ := g.mut ho va
  obtain ⟨a, xs, e1, e2, e3⟩ := h _ _ _ _ _ hh
  subst e1
  exact ⟨a, xs, i, z, rfl, rfl, .of e2, e3, k _ ρ H (pre_refl ρ) trivial (g.tdrop.tdrop.tflat f)⟩
theorem ze_ixO {z : V} {d : PyData} (ho : s2.R[o]? = some O) (h : IxO O i z) (f : flat z d) (ha : ZE X a s (.r o) s1) (hb : ZE X b s1 (.d (.int i)) s2) (hs : PlainIx b := by intro _ _; rfl) : ZE X (.Subscript a b pos) s (.d d) s2 :=
  PE.imp (pe_ix ix_list ha hb hs) (bi_run (bi_ixO ho h f))
/-- .. gives another object of the store -/
theorem ze_ixR {z : V} (ho : s2.R[o]? = some O) (h : IxO O i z) (hn : s2.R[n]? = some O') (h' : ∀ K F H v fp, O'.holds K F H v fp → v = z) (ha : ZE X a s (.r o) s1) (hb : ZE X b s1 (.d (.int i)) s2) (hs : PlainIx b := by intro _ _; rfl) : ZE X (.Subscript a b pos) s (.r n) s2 :=
  PE.imp (pe_ix ix_list ha hb hs) (bi_run fun u w T σ ρ H Q g va vb k => by
    have e1 := see_int (i := i) (v := w) g List.mem_cons_self
    subst e1
    obtain ⟨F, fp, hh, _⟩ := g.mut ho va
    obtain ⟨a, xs, e1, e2, e3⟩ := h _ _ _ _ _ hh
    subst e1
    obtain ⟨v, hv⟩ := get_of_len g.lr hn
    obtain ⟨F2, fp2, hh2, _⟩ := g.mut hn hv
    have ez := h' _ _ _ _ _ hh2
    subst ez
    exact ⟨a, xs, i, v, rfl, rfl, .of e2, e3, k _ ρ H (pre_refl ρ) hv g.tdrop.tdrop.tun⟩)
theorem ze_lenO (ho : s1.R[o]? = some O) (h : LenO O n) (ha : ZA X [a] s [.r o] s1) (hm : X.mg "len" = none) (c : Cl X "len" a [] pos := by exact ⟨rfl, rfl, rfl⟩) : ZE X (.Call (.Name "len" p) [a] [] pos) s (.d (.int (n : Nat))) s1 :=
  ze_callB call_len_seq (by decide +kernel) ha hm c (ca1 fun u T σ ρ H Q g vr k => by
    obtain ⟨F, fp, hh, _⟩ := g.mut ho vr
    obtain ⟨a, xs, e1, e2, e3⟩ := h _ _ _ _ _ hh
    subst e1 e3
    exact ⟨a, xs, rfl, .inl (.of e2), k _ ρ H (pre_refl ρ) trivial (g.tdrop.tflat (show flat (.int _) (.int _) from rfl))⟩)
/-- xs[i] = a flat value -/
theorem zss_putO {tpos : Pos} {z : V} {d : PyData} (h : PutO O i z O') (he : ZE X e s (.d d) s1) (ha : ZE X a s1 (.r o) s2) (hb : ZE X b s2 (.d (.int i)) s3) (ho : s3.R[o]? = some O) (f : ∀ {K : PySem.W.Frag} {H : Hp} {u : V}, Dp K H u d → u = z)
    (k : ZSs X rest ⟨s3.e, s3.R.set o O'⟩ P)
    (hsub : ∀ v, assign (.Subscript a b tpos) X.env v = (do
      let ov ← holding [v] (eval a X.env)
      let iv ← holding [v, ov] (eval b X.env)
      standAt tpos
      holding [v, ov, iv] (setItem ov iv v)
      release [v, ov, iv] []) := by intro _; rfl)
    (hs : swapsWithSole [.Subscript a b tpos] e pos.line X.env = pure false := by rfl) (hw : swappedStores [.Subscript a b tpos] e X.env = pure none := by rfl) (h1 : (assignEach [.Subscript a b tpos] X.env).map (·.2) = [assign (.Subscript a b tpos) X.env] := by rfl) :
    ZSs X (.Assign [.Subscript a b tpos] e pos :: rest) s P := by
  refine zss_seq (M := fun t => t = ⟨s3.e, s3.R.set o O'⟩) (PS.imp (ps_asg he (pg_sub ha hb set_list hsub) hs hw h1) fun D σ H ⟨t, T, ρ, e1, hb0, g, q⟩ => ?_) fun t e => by subst e; exact k
  subst e1
  refine ⟨T, ρ, g, fun v ρ1 H1 p1 vr1 g1 => ⟨_, ρ1, g1, fun u ρ2 H2 p2 vr2 g2 => ⟨_, ρ2, g2, fun w ρ3 H3 p3 vr3 g3 => ?_⟩⟩⟩
  have e1 := see_int (i := i) (v := w) g3 List.mem_cons_self
  subst e1
  have dv := g3.see (r := .d d) (v := v) (x := d) (List.mem_cons_of_mem _ (List.mem_cons_of_mem _ List.mem_cons_self)) trivial (.d _)
  have e2 := f dv
  subst e2
  obtain ⟨F, fp, hh, all, put⟩ := g3.mut ho (VR.mono (r := .r o) vr2 p3)
  obtain ⟨a, xs, j, e1, m, e2, e3, hq⟩ := h _ _ _ _ _ hh
  subst e1
  refine ⟨a, xs, i, j, rfl, rfl, e2, e3, q.nx _ σ ρ3 _ rfl ((List.take_prefix _ _).trans ((p1.trans p2).trans p3)) (put O' _ hq (fun b u hb hu => ?_) fun b hb => ?_).tdrop.tdrop.tdrop⟩
  · rw [upd_ne (fun z => hb (by rw [z]; exact m))]
    exact hu
  · by_cases eb : b = a
    · subst eb
      exact ⟨_, upd_same⟩
    · rw [upd_ne eb]; exact all b hb
/-- xs.pop(0) -/
theorem ze_popO {apos p2 : Pos} {z : V} {d : PyData} (ho : s2.R[o]? = some O) (h : PopO O z O') (f : flat z d) (ha : ZE X a s (.r o) s1) (he : ZA X [b] s1 [.d (.int 0)] s2) (h1 : ∀ K F H v fp, s1.R[o]? = some O → O.holds K F H v fp → ∃ a xs, v = .ref a ∧ H a = some (.lst xs)) (ho1 : s1.R[o]? = some O)
    (hne : starEach [b] X.env = (false, eval b X.env) :: starEach [] X.env := by rfl)
    (hbase : attributeBase a "pop" X.env (eval a X.env) = eval a X.env := by rfl)
    (hfew : ((backTo p2 (starEach (b :: []) X.env)).all (fun x => !x.1) && (backToKw p2 (keywordEach [] X.env)).all (fun x => x.1.isSome)
      && decide ((b :: ([] : List Expr)).length + ([] : List Keyword).length + (if ([] : List Keyword).isEmpty then 0 else 1) < 30)) = true := by rfl)
    (hline : (apos.endLine == p2.line) = true := by rfl) (hplain : (backTo p2 (starEach [] X.env)).any (·.1) = false := by rfl) :
    ZE X (.Call (.Attribute a "pop" apos) [b] [] p2) s (.d d) ⟨s2.e, s2.R.set o O'⟩ := by
  refine PE.imp (pe_bm PySem.F.plainAttrs_list PySem.F.slot_list_pop PySem.F.type_list_pop mt_popAt ha he hbase hfew hline hne hplain) fun σ H Q ⟨T, ρ, g, k⟩ => ⟨T, ρ, g, fun v ρ1 H1 p1 vr1 g1 => ?_⟩
  obtain ⟨F, fp, hh, _⟩ := g1.mut ho1 vr1
  obtain ⟨a1, xs1, e1, e2⟩ := h1 _ _ _ _ _ ho1 hh
  subst e1
  refine ⟨.inl ⟨rfl, _, .of e2⟩, _, ρ1, g1, fun vs ρ2 H2 p2 vr2 g2 => ?_⟩
  obtain ⟨v, e1, g3⟩ := vrs_one vr2 g2
  subst e1
  have e1 := see_int (i := 0) (v := v) g3 List.mem_cons_self
  subst e1
  obtain ⟨F, fp, hh, all, put⟩ := g3.mut ho (VR.mono (r := .r o) vr1 p2)
  obtain ⟨a, xs, e3, m, e4, e5, hq⟩ := h _ _ _ _ _ hh
  cases e3
  have hx : 0 < xs.length := (List.getElem?_eq_some_iff.mp e5).1
  refine ⟨_, xs, 0, 0, z, rfl, rfl, e4, by decide, by decide, by
    unfold seqIndex?
    simp
    exact fun e => by rw [e] at hx; exact Nat.lt_irrefl _ hx, e5, k z ρ2 _ (p1.trans p2) trivial ((put O' _ hq (fun b u hb hu => ?_) fun b hb => ?_).tdrop.tdrop.tflat f)⟩
  · rw [upd_ne (fun z => hb (by rw [z]; exact m))]
    exact hu
  · by_cases eb : b = a1
    · subst eb
      exact ⟨_, upd_same⟩
    · rw [upd_ne eb]; exact all b hb

/-! ### the box of a law -/
/-- a list that is known: its address, its values -/
def OA (a : Addr) (vs : List V) : Own where
  holds := fun K F H v fp => v = .ref a ∧ fp = [a] ∧ H a = some (.lst vs)
  stay := fun ⟨e1, e2, e3⟩ e k => ⟨e1, e2, k a (by rw [e2]; simp) _ e3⟩
structure Bx where
  cells : List Int
  x : Int
  y : Int
def OBox (b : Bx) : Own where
  holds := fun K F H v fp => ∃ p c, v = .ref p ∧ fp = [p, c] ∧ p ≠ c ∧ H p = some (.lst [.ref c, .int b.x, .int b.y]) ∧ H c = some (.lst (b.cells.map .int))
  stay := fun ⟨p, c, e1, e2, n, e3, e4⟩ e k => ⟨p, c, e1, e2, n, k p (by rw [e2]; simp) _ e3, k c (by rw [e2]; simp) _ e4⟩
theorem ix_box1 {b : Bx} : IxO (OBox b) 1 (.int b.x) := fun K F H v fp ⟨p, c, e1, e2, n, e3, e4⟩ => ⟨p, _, e1, e3, rfl⟩
theorem ix_box2 {b : Bx} : IxO (OBox b) 2 (.int b.y) := fun K F H v fp ⟨p, c, e1, e2, n, e3, e4⟩ => ⟨p, _, e1, e3, rfl⟩
theorem put_box1 {b : Bx} {z : Int} : PutO (OBox b) 1 (.int z) (OBox ⟨b.cells, z, b.y⟩) := fun K F H v fp ⟨p, c, e1, e2, n, e3, e4⟩ => ⟨p, _, 1, e1, by rw [e2]; simp, e3, rfl, p, c, e1, e2, n, upd_same, by rw [upd_ne n.symm]; exact e4⟩
theorem put_box2 {b : Bx} {z : Int} : PutO (OBox b) 2 (.int z) (OBox ⟨b.cells, b.x, z⟩) := fun K F H v fp ⟨p, c, e1, e2, n, e3, e4⟩ => ⟨p, _, 2, e1, by rw [e2]; simp, e3, rfl, p, c, e1, e2, n, upd_same, by rw [upd_ne n.symm]; exact e4⟩
theorem oa_is {a : Addr} {vs : List V} : ∀ K F H v fp, (OA a vs).holds K F H v fp → v = .ref a := fun K F H v fp ⟨e, _⟩ => e
theorem ix_oa {a : Addr} {vs : List V} {z : V} (h : atI vs i = some z) : IxO (OA a vs) i z := fun K F H v fp ⟨e1, e2, e3⟩ => ⟨a, vs, e1, e3, h⟩
theorem len_oa {a : Addr} {vs : List V} : LenO (OA a vs) vs.length := fun K F H v fp ⟨e1, e2, e3⟩ => ⟨a, vs, e1, e3, rfl⟩
theorem pop_oa {a : Addr} {vs : List V} {z : V} : PopO (OA a (z :: vs)) z (OA a vs) := fun K F H v fp ⟨e1, e2, e3⟩ => ⟨a, _, e1, by rw [e2]; simp, e3, rfl, e1, e2, upd_same⟩
/-- the box in two -/
theorem zss_open {b : Bx} (hb : s.R[o]? = some (OBox b)) (k : ∀ p c, ZSs X rest ⟨s.e, s.R.set o (OA p [.ref c, .int b.x, .int b.y]) ++ [OA c (b.cells.map .int)]⟩ P) : ZSs X rest s P :=
  ⟨fun pins sh σ H D I ⟨t, T, ρ, e1, hb0, g, q⟩ => by
    subst e1
    obtain ⟨v, e2, ok, bk⟩ := g.obj hb
    obtain ⟨F, L, e1, g1⟩ := ok
    cases L with
    | nil => simp at e1
    | cons z L =>
      obtain ⟨z1, fp⟩ := z
      simp at e1
      obtain ⟨e3, e4⟩ := e1
      subst e3
      obtain ⟨u, e5, p, c, h1, h2, h3, h4, h5⟩ := g1.ent _ List.mem_cons_self
      have e5' : v = u := Option.some.inj e5
      subst e5'
      subst h1
      have h2' : fp = [p, c] := h2
      subst h2'
      have nd := g1.nd
      unfold fpsOf at nd
      rw [List.flatMap_cons] at nd
      obtain ⟨n1, n2, n3⟩ := List.nodup_append.mp nd
      have own := g1.own
      unfold fpsOf at own
      rw [List.flatMap_cons] at own
      have a1 := g1.tail.oCons (v := .ref c) (P := OA c (b.cells.map .int)) (fp := [c]) ⟨rfl, rfl, h5⟩ (by simp) (fun a ha hx => n3 a (by simp at ha; simp [ha]) a hx rfl) fun a ha => own a (by simp at ha; simp [ha])
      have a2 := a1.oCons (v := .ref p) (P := OA p [.ref c, .int b.x, .int b.y]) (fp := [p]) ⟨rfl, rfl, h4⟩ (by simp) (fun a ha hx => by
        unfold fpsOf at hx
        rw [List.flatMap_cons] at hx
        rcases List.mem_append.mp hx with hx | hx
        · simp at ha hx; subst ha hx; exact h3 rfl
        · exact n3 a (by simp at ha; simp [ha]) a hx rfl) fun a ha => own a (by simp at ha; simp [ha])
      have a3 : OK X.K ((IT.o (OA p [.ref c, .int b.x, .int b.y]), some (V.ref p)) :: (((IT.o (OA c (b.cells.map .int)), some (V.ref c)) :: T) ++ (ES t.e σ ++ (RS t.R ρ).set o (IT.un, some (V.ref p))))) H := ⟨F, _, by rw [List.map_cons, List.map_cons, e4]; rfl, a2⟩
      have a4 := ZE.frz.back2 (T2 := (IT.o (OA c (b.cells.map .int)), some (V.ref c)) :: T) g hb e2 a3
      have a5 := Sat.push a4.ok a4.le a4.lr a4.al
      refine (k p c).run pins sh σ H D I ⟨_, T, ρ ++ [.ref c], rfl, by simp; omega, a5, ?_⟩
      rw [take_pre (List.prefix_append _ _) hb0]
      exact q⟩
/-- .. and in one again -/
theorem zss_close {b : Bx} {p c : Addr} {e' : List SD} {R : List Own} (hs : s = ⟨s.e, R ++ [OA c (b.cells.map .int)]⟩) (ho : R[o]? = some (OA p [.ref c, .int b.x, .int b.y])) (hb : P.b ≤ R.length) (w : wkE s.e e') (lw : low R.length e') (k : ZSs X rest ⟨e', R.set o (OBox b)⟩ P) : ZSs X rest s P :=
  ⟨fun pins sh σ H D I ⟨t, T, ρ, e1, hb0, g, q⟩ => by
    subst e1
    rw [hs] at g
    have lr := g.lr
    simp at lr
    obtain ⟨ρ0, v0, hρ⟩ : ∃ ρ0 v0, ρ = ρ0 ++ [v0] := ⟨ρ.take R.length, ρ[R.length]'(by omega), by
      conv => lhs; rw [← List.take_append_drop R.length ρ]
      congr 1
      rw [List.drop_eq_getElem_cons (by omega), List.drop_eq_nil_of_le (by omega)]⟩
    subst hρ
    have lr0 : R.length = ρ0.length := by simpa using lr
    have q1 : RS (R ++ [OA c (b.cells.map .int)]) (ρ0 ++ [v0]) = RS R ρ0 ++ [(IT.o (OA c (b.cells.map .int)), some v0)] := by
      unfold RS
      rw [List.zipWith_append lr0]
      rfl
    have ok := g.ok
    rw [show (⟨t.e, R ++ [OA c (b.cells.map .int)]⟩ : S).R = R ++ [OA c (b.cells.map .int)] from rfl, q1] at ok
    have ok1 : OK X.K (ES t.e σ ++ (((IT.o (OA c (b.cells.map .int)), some v0) :: T) ++ RS R ρ0)) H := by
      refine ok.perm ?_
      show (T ++ (ES t.e σ ++ (RS R ρ0 ++ [(IT.o (OA c (b.cells.map .int)), some v0)]))).Perm (ES t.e σ ++ ([(IT.o (OA c (b.cells.map .int)), some v0)] ++ T ++ RS R ρ0))
      simp only [List.append_assoc]
      refine (cas _ _ _).trans (List.Perm.append_left _ ?_)
      refine List.Perm.trans ?_ List.perm_append_comm
      rw [List.append_assoc]
    have g0 : Sat X.K ⟨e', R⟩ σ ρ0 ((IT.o (OA c (b.cells.map .int)), some v0) :: T) H := by
      refine ⟨(wkE_len w).trans g.le, lr0, fun i j he => ?_, ?_⟩
      · obtain ⟨a, ha, hor⟩ := wkE_get w he
        rcases hor with e | e
        · subst e
          obtain ⟨v, h1, h2⟩ := g.al i j ha
          exact ⟨v, h1, by rw [List.getElem?_append_left (by rw [← lr0]; exact low_get lw he)] at h2; exact h2⟩
        · cases e
      · refine (ok_es (l := ((IT.o (OA c (b.cells.map .int)), some v0) :: T) ++ RS R ρ0) w ok1).perm ?_
        exact cas _ _ _
    obtain ⟨v, e2, ok2, bk⟩ := g0.obj ho
    obtain ⟨F, L, e1, g1⟩ := ok2
    match L, e1, g1 with
    | (z1, fp) :: (z2, fp2) :: L, e1, g1 =>
      simp at e1
      obtain ⟨e3, e5, e4⟩ := e1
      subst e3 e5
      obtain ⟨u, e6, h1, h2, h3⟩ := g1.ent _ List.mem_cons_self
      obtain ⟨u2, e7, k1, k2, k3⟩ := g1.ent _ (List.mem_cons_of_mem _ List.mem_cons_self)
      have e6' : v = u := Option.some.inj e6
      subst e6'
      have e7' : v0 = u2 := Option.some.inj e7
      subst e7'
      have h2' : fp = [p] := h2
      have k2' : fp2 = [c] := k2
      subst h2' k2'
      have nd := g1.nd
      unfold fpsOf at nd
      rw [List.flatMap_cons, List.flatMap_cons] at nd
      have own := g1.own
      unfold fpsOf at own
      rw [List.flatMap_cons, List.flatMap_cons] at own
      obtain ⟨n1, n2, n3⟩ := List.nodup_append.mp nd
      obtain ⟨m1, m2, m3⟩ := List.nodup_append.mp n2
      have pc : p ≠ c := fun e => n3 p (by simp) c (by simp) e
      have a1 := g1.tail.tail.oCons (v := v) (P := OBox b) (fp := [p, c]) ⟨p, c, h1, rfl, pc, h3, k3⟩ (by simp [pc]) (fun a ha hx => by
        simp at ha
        rcases ha with rfl | rfl
        · exact n3 a (by simp) a (List.mem_append_right _ hx) rfl
        · exact m3 a (by simp) a hx rfl) fun a ha => own a (by
        simp at ha
        rcases ha with rfl | rfl <;> simp)
      have a2 : OK X.K ((IT.o (OBox b), some v) :: (T ++ (ES e' σ ++ (RS R ρ0).set o (IT.un, some v)))) H := ⟨F, _, by rw [List.map_cons, e4], a1⟩
      have a3 := ZE.frz.back2 (T2 := T) g0 ho e2 a2
      refine k.run pins sh σ H D I ⟨_, T, ρ0, rfl, by omega, a3, ?_⟩
      rw [take_pre (List.prefix_append ρ0 [v0]) (by omega)] at q
      exact q⟩
end
end Z

namespace Z
open PySem L2 PyProof.Rows
theorem obox_inj (K : PySem.W.Frag) {b b' : Bx} (h : OBox b = OBox b') : b = b' := by
  have h1 : (OBox b).holds K (fun _ => none) (fun a => if a = 0 then some (.lst [.ref 1, .int b.x, .int b.y]) else some (.lst (b.cells.map .int))) (.ref 0) [0, 1] := ⟨0, 1, rfl, rfl, by decide, rfl, rfl⟩
  rw [h] at h1
  obtain ⟨p, c, e1, e2, n, e3, e4⟩ := h1
  cases e1
  cases e2
  simp at e3 e4
  obtain ⟨e3, e5⟩ := e3
  have e6 : b.cells = b'.cells := by
    exact (List.map_inj_right (fun x y e => by cases e; rfl)).mp e4
  obtain ⟨x, y, z⟩ := b
  obtain ⟨x', y', z'⟩ := b'
  simp at e3 e5 e6
  rw [e3, e5, e6]
theorem flI (i : Int) : flat (.int i) (.int i) := rfl
theorem lt_of {n m : Nat} (h : Nat.ble (n + 1) m = true) : n < m := Nat.le_of_ble_eq_true h
def finB (cells : List Int) (x y : Int) : Int × Bx :=
  let first := (y * 48271 + 17) % 2147483629
  let second := (first * 69621 + 5) % 2147483587
  let z := (second * 40692 + 3) % 2147483563
  (first * 4611686014132420609 + second * 2147483647 + z, ⟨cells, x, z⟩)
def cellB (c : Int) : Int := if decide (0 ≤ c) = true then 2 * c else -2 * c - 1
def loadB (b : Bx) : Int × Bx := match b.cells with
  | c :: r => if decide (1000000000000000000 ≤ cellB c) = true then (cellB c, ⟨r, b.x, b.y⟩) else finB r b.x ((b.y * 69621 + cellB c * 48271 + 11) % 2147483647)
  | [] => finB [] b.x b.y
def drawB (b : Bx) (m : Int) : Int × Bx :=
  let b' : Bx := if b.x < m then ⟨(loadB b).2.cells, (loadB b).1, (loadB b).2.y⟩ else b
  (b'.x % m, ⟨b'.cells, b'.x / m, b'.y⟩)
structure BOK (b : Bx) : Prop where
  x : 0 ≤ b.x
  y : 0 ≤ b.y ∧ b.y < 2 ^ 31
  l : b.cells.length ≤ 63
theorem cell_pos (c : Int) : 0 ≤ cellB c := by unfold cellB; split <;> simp_all <;> omega
theorem fin_ok {cells : List Int} {x y : Int} (hx : 0 ≤ x) (hy : 0 ≤ y) (hl : cells.length ≤ 63) : 0 ≤ (finB cells x y).1 ∧ BOK (finB cells x y).2 := by
  unfold finB
  dsimp only
  generalize h1 : (y * 48271 + 17) % 2147483629 = f
  generalize h2 : (f * 69621 + 5) % 2147483587 = g
  generalize h3 : (g * 40692 + 3) % 2147483563 = z
  have z1 : 0 ≤ z := by omega
  have z2 : z < 2 ^ 31 := by omega
  exact ⟨by omega, hx, ⟨z1, z2⟩, hl⟩
theorem load_ok {b : Bx} (h : BOK b) : 0 ≤ (loadB b).1 ∧ BOK (loadB b).2 := by
  obtain ⟨hx, ⟨y1, y2⟩, hl⟩ := h
  unfold loadB
  cases hc : b.cells with
  | nil => exact fin_ok hx y1 (by simp)
  | cons c r =>
    rw [hc] at hl
    simp at hl
    have hp := cell_pos c
    dsimp only
    split
    · exact ⟨hp, hx, ⟨y1, y2⟩, by show r.length ≤ 63; omega⟩
    · exact fin_ok hx (by omega) (by omega)
theorem draw_ok {b : Bx} {m : Int} (h : BOK b) (hm : 0 < m) : (0 ≤ (drawB b m).1 ∧ (drawB b m).1 < m) ∧ BOK (drawB b m).2 := by
  unfold drawB
  dsimp only
  refine ⟨⟨Int.emod_nonneg _ (by omega), Int.emod_lt_of_pos _ hm⟩, ?_⟩
  split
  · obtain ⟨h1, h2⟩ := load_ok h
    exact ⟨Int.ediv_nonneg h1 (by omega), h2.y, h2.l⟩
  · exact ⟨Int.ediv_nonneg h.x (by omega), h.y, h.l⟩
def aBx : Bx → List IT := fun b => [.o (OBox b)]
def aDr : Bx × Int → List IT := fun z => [.o (OBox z.1), .d (.int z.2)]
def okDr : Bx × Int → Prop := fun z => BOK z.1 ∧ CDivW 0 z.2
abbrev rLoad : Bx → IT := fun b => .d (.int (loadB b).1)
abbrev oLoad : Bx → List Own := fun b => [OBox (loadB b).2]
abbrev rDraw : Bx × Int → IT := fun z => .d (.int (drawB z.1 z.2).1)
abbrev oDraw : Bx × Int → List Own := fun z => [OBox (drawB z.1 z.2).2]
def box0 (ns : List Int) : Bx := ⟨ns, 0, 4711 + (ns.length : Nat)⟩
theorem box0_ok {ns : List Int} (h : ns.length ≤ 63) : BOK (box0 ns) := ⟨Int.le_refl _, ⟨by show (0 : Int) ≤ 4711 + _; omega, by show (4711 : Int) + (ns.length : Nat) < 2 ^ 31; omega⟩, h⟩
end Z

namespace Z
open PySem L2 PyProof.Rows
section
variable {X : Cx} {e a b c : Expr} {es : List Expr} {s s1 s2 s3 : S} {r : SD} {rs : List SD} {pos p : Pos} {x : Str} {k j n : Nat} {pre : Pre} {rel : Rel} {ds as bs : List PyData} {zd : PyData} {O : Own}
/-- a call, of data alone, whose answer is a thing of its own -/
theorem ze_callR (c : Cal X.prog X.w X.K X.mg X.base k x pre rel) (ha : ZA X (e :: es) s (ds.map .d) s1) (hp : pre (ds.map .d)) (hq : ∀ z Os, rel (ds.map .d) z Os → z = .o O) (hr : Room j X.A) (hk : k ≤ j := by omega) (h : Cl X x e es pos := by exact ⟨rfl, rfl, rfl⟩)
    (hdb : (x == ("__debug__" : Str)) = false := by decide) : ZE X (.Call (.Name x p) (e :: es) [] pos) s (.r s1.R.length) ⟨s1.e, s1.R ++ [O]⟩ := by
  refine PE.imp (tcall c hr hk h ha hdb) fun σ H Q ⟨T, ρ, g, q⟩ => ⟨T, ρ, g, fun vs ρ' H' p vr g' => ?_⟩
  show spZ X.K pre rel (vs ++ []) H' Q E0
  rw [List.append_nil]
  have hl : (ds.map IT.d).length = vs.length := by have := vr.1; simpa using this
  refine ⟨ds.map .d, T ++ (ES s1.e σ ++ RS s1.R ρ'), hp, hl, ?_, fun z Os v H2 hz ok => ?_⟩
  · have k := g'.ok
    rw [its_ie, List.append_assoc] at k
    exact k
  · rw [hq z Os hz] at ok
    refine q v (ρ' ++ [v]) H2 (p.trans (List.prefix_append _ _)) g'.newVR (Sat.tun (Sat.push ?_ g'.le g'.lr g'.al))
    exact ((OK.perm (List.perm_append_comm) (show OK X.K (([(IT.o O, some v)] ++ ie (back (ds.map IT.d) Os) vs) ++ (T ++ (ES s1.e σ ++ RS s1.R ρ'))) H2 from by rw [List.append_assoc]; exact ok)).perm (by
      refine (List.perm_append_comm).trans ?_
      rw [List.append_assoc]
      exact cas _ _ _)).right
theorem ze_callSR {A : Type} {args : A → List IT} {ask : A → Prop} {res : A → IT} {outs : A → List Own} (y : A) (c : Cal X.prog X.w X.K X.mg X.base k x (preOf args ask) (relOf args ask res outs)) (ha : ZA X (e :: es) s rs s1) (hy : ask y) (hz : res y = .o O) (hr : Room j X.A) (hk : k ≤ j := by omega)
    (h1 : args y = (dsOf (args y)).map .d := by rfl) (h2 : rs = (dsOf (args y)).map .d := by rfl) (h : Cl X x e es pos := by exact ⟨rfl, rfl, rfl⟩) (hdb : (x == ("__debug__" : Str)) = false := by decide) : ZE X (.Call (.Name x p) (e :: es) [] pos) s (.r s1.R.length) ⟨s1.e, s1.R ++ [O]⟩ := by
  subst h2
  exact ze_callR (ds := dsOf (args y)) c ha ⟨y, hy, h1.symm⟩ (fun z Os hq => by rw [(hq y hy h1.symm).1, hz]) hr hk h hdb
/-- list(xs), of its own -/
theorem ze_listO (w : Vw s1 r (.list ds)) (ha : ZA X [a] s [r] s1) (hm : X.mg "list" = none) (c : Cl X "list" a [] pos := by exact ⟨rfl, rfl, rfl⟩) : ZE X (.Call (.Name "list" p) [a] [] pos) s (.r s1.R.length) ⟨s1.e, s1.R ++ [OL ds]⟩ :=
  ze_callT call_list_of (by decide +kernel) ha hm c (ca1 fun u T σ ρ H Q g vr k => by
    obtain ⟨F, p, vs, e1, hs, hd, f⟩ := g.seeL List.mem_cons_self vr w
    subst e1
    exact ⟨p, vs, rfl, .inl hs, fun l hl => k _ (ρ ++ [.ref l]) _ (List.prefix_append _ _) g.newVR (Sat.tun (g.push1 (f.lstO hd hl)))⟩)
theorem ze_listOT (w : Vw s1 r (.tuple ds)) (ha : ZA X [a] s [r] s1) (hm : X.mg "list" = none) (c : Cl X "list" a [] pos := by exact ⟨rfl, rfl, rfl⟩) : ZE X (.Call (.Name "list" p) [a] [] pos) s (.r s1.R.length) ⟨s1.e, s1.R ++ [OL ds]⟩ :=
  ze_callT call_list_of (by decide +kernel) ha hm c (ca1 fun u T σ ρ H Q g vr k => by
    obtain ⟨F, p, vs, e1, hs, hd, f⟩ := g.seeT List.mem_cons_self w
    subst e1
    exact ⟨p, vs, rfl, .inr hs, fun l hl => k _ (ρ ++ [.ref l]) _ (List.prefix_append _ _) g.newVR (Sat.tun (g.push1 (f.lstO hd hl)))⟩)
theorem dps_ints {K : PySem.W.Frag} {F : Hp} : ∀ {bs : List Int} {vs : List V}, DpAll K F vs (bs.map .int) → vs = bs.map V.int
  | [], _, h => by cases h; rfl
  | b :: bs, _, h => by
    cases h with
    | cons h1 h2 => cases h1; rw [dps_ints h2]; rfl
/-- [cells, x, y]: the box -/
theorem ze_boxD {ns : List Int} {i j : Int} {o : Nat} (h : ZA X es s [.r o, .d (.int i), .d (.int j)] s1) (ho : s1.R[o]? = some (OL (ns.map .int))) : ZE X (.List es pos) s (.r s1.R.length) ⟨s1.e, s1.R.set o gone ++ [OBox ⟨ns, i, j⟩]⟩ := by
  refine PE.imp (pe_lst h) fun σ H Q ⟨T, ρ, g, q⟩ => ⟨T, ρ, g, fun vs ρ1 H1 p1 vrs g1 => ?_⟩
  obtain ⟨h1, h2⟩ := vrs
  match vs, h1 with
  | [v0, v1, v2], _ =>
    have vr0 : ρ1[o]? = some v0 := h2 0 _ _ rfl rfl
    have e1 := see_int (i := i) (v := v1) g1 (List.mem_cons_of_mem _ List.mem_cons_self)
    have e2 := see_int (i := j) (v := v2) g1 (List.mem_cons_of_mem _ (List.mem_cons_of_mem _ List.mem_cons_self))
    subst e1 e2
    refine ⟨by show 3 ≤ sizeLine; decide, fun l hl => ?_⟩
    have g2 : Sat X.K s1 σ ρ1 T H1 := g1.tdrop.tdrop.tdrop
    obtain ⟨v', e2, ok, bk⟩ := g2.obj ho
    have ev : v' = v0 := Option.some.inj (e2.symm.trans vr0)
    subst ev
    obtain ⟨F, L, e1, f1⟩ := ok
    cases L with
    | nil => simp at e1
    | cons z L =>
      obtain ⟨z1, fp⟩ := z
      simp at e1
      obtain ⟨e3, e4⟩ := e1
      subst e3
      obtain ⟨u, e5, c, ws, k1, k2, k3, k4⟩ := f1.ent _ List.mem_cons_self
      have e5' : v' = u := Option.some.inj e5
      subst e5' k1
      have k2' : fp = [c] := k2
      subst k2'
      have ew := dps_ints k4
      subst ew
      have nlc : l ≠ c := fun e => by rw [e, k3] at hl; cases hl
      have fr := f1.fresh (o := .lst [.ref c, .int i, .int j]) hl
      have nd := f1.nd
      unfold fpsOf at nd
      rw [List.flatMap_cons] at nd
      obtain ⟨n1, n2, n3⟩ := List.nodup_append.mp nd
      have own := f1.own
      have nl : ∀ a ∈ fpsOf L, a ≠ l := fun a ha e => by
        obtain ⟨_, o, ho⟩ := own a (by unfold fpsOf; rw [List.flatMap_cons]; exact List.mem_append_right _ ha)
        rw [e, hl] at ho
        cases ho
      have a1 := fr.tail.oCons (v := .ref l) (P := OBox ⟨ns, i, j⟩) (fp := [l, c]) ⟨l, c, rfl, rfl, nlc, upd_same, by rw [upd_ne nlc.symm]; exact k3⟩ (by simp [nlc]) (fun a ha hx => by
        simp at ha
        rcases ha with rfl | rfl
        · exact nl a hx rfl
        · exact n3 a (by simp) a hx rfl) fun a ha => by
        simp at ha
        rcases ha with rfl | rfl
        · exact ⟨ext_none f1.ext hl, _, upd_same⟩
        · exact fr.own a (by unfold fpsOf; rw [List.flatMap_cons]; simp)
      have a2 : OK X.K ((IT.o (OBox ⟨ns, i, j⟩), some (V.ref l)) :: (T ++ (ES s1.e σ ++ (RS s1.R ρ1).set o (IT.un, some (V.ref c))))) (upd H1 l (.lst [.ref c, .int i, .int j])) := ⟨F, _, by rw [List.map_cons, e4], a1⟩
      obtain ⟨F3, L3, e6, f3⟩ := a2
      have a3 : OK X.K ((IT.o gone, some (V.ref c)) :: (((IT.o (OBox ⟨ns, i, j⟩), some (V.ref l)) :: T) ++ (ES s1.e σ ++ (RS s1.R ρ1).set o (IT.un, some (V.ref c))))) (upd H1 l (.lst [.ref c, .int i, .int j])) :=
        ⟨F3, (((IT.o gone, some (V.ref c)), []) :: L3), by rw [List.map_cons, e6]; rfl, f3.oCons (v := .ref c) (P := gone) (fp := []) rfl List.nodup_nil (fun a ha => by cases ha) (fun a ha => by cases ha)⟩
      have a4 := ZE.frz.back2 (T2 := (IT.o (OBox ⟨ns, i, j⟩), some (V.ref l)) :: T) g2 ho vr0 a3
      refine q _ (ρ1 ++ [.ref l]) _ (p1.trans (List.prefix_append _ _)) ?_ (Sat.tun (Sat.push a4.ok a4.le a4.lr a4.al))
      show (ρ1 ++ [V.ref l])[s1.R.length]? = _
      rw [g1.lr, List.getElem?_append_right (Nat.le_refl _), Nat.sub_self]
      rfl
end
theorem cut63 {ds : List PyData} (h : ds.length ≤ 63) : cut ds none (some 63) = ds := by
  unfold cut
  rw [show HT.sIx ds.length ds.length (some 63) = min 63 ds.length from HT.sIx_nat ds.length ds.length 63, HT.sIx_none]
  rw [List.drop_zero, Nat.sub_zero, Nat.min_eq_right h, List.take_length]
end Z

namespace Z
open PySem L2 PyProof.Rows
section
variable {X : Cx} {tg iter elt : Expr} {ifs : List Expr} {s s1 : S} {ds : List PyData} {pos : Pos}
/-- a comprehension whose turns leave the objects -/
theorem ze_lcP {scope : Scope} {own : List (Str × Nat)} {vs : List Nat} (f : PyData → PyData) (p : PyData → Bool) (hi : ZI X tg iter s ds s1)
    (turn : ∀ x, x ∈ ds → ∃ t', (∀ z, ZG (bl X scope z) tg vs x ⟨wipeE s1.e vs, s1.R⟩ t') ∧ t'.R = s1.R ∧ (∀ z, ZTs (bl X scope z) ifs t' (Is (p x) t')) ∧
      (p x = true → ∀ z, ZE (bl X scope z) elt t' (.d (f x)) t')) (hsz : ds.length < sizeLine) (hN : X.N.Nodup) (ok : BlkOk X.N X.env.scope scope own) (hvs : own.map (·.2) = vs := by rfl) (hc : X.calm = true := by rfl) (hs : ∀ x, foldedSetIterable iter X.env x = pure x := by intro _; rfl) :
    ZE X (.ListComp elt [⟨tg, iter, ifs, 0⟩] scope pos) s (.d (.list ((ds.filter p).map f))) s1 := by
  refine (show (⟨s1.e, s1.R⟩ : S) = s1 from rfl) ▸ ze_lcD (R0 := s1.R) hi (fun i acc R => acc = ((ds.take i).filter p).map f ∧ R = s1.R) ⟨by simp, rfl⟩ (fun i x acc R hx ⟨h1, h2⟩ => ?_) (fun acc R ⟨h1, h2⟩ => ⟨by rw [h1, List.take_length], h2⟩) hsz hN ok hvs hc hs
  subst h1 h2
  obtain ⟨t', a1, a2, a3, a4⟩ := turn x (List.mem_of_getElem? hx)
  have tk : ds.take (i + 1) = ds.take i ++ [x] := by rw [List.take_add_one, hx]; rfl
  refine ⟨t', Is (p x) t', a1, a3, fun t2 ⟨e1, e2⟩ => ⟨?_, by rw [e2, a2]⟩, fun t2 ⟨e1, e2⟩ => ?_⟩
  · rw [tk, List.filter_append, List.map_append]
    have : List.filter p [x] = [] := by simp [← e1]
    rw [this]
    simp
  · subst e2
    refine ⟨f x, t2, a4 e1.symm, ?_, a2⟩
    rw [tk, List.filter_append, List.map_append]
    have : List.filter p [x] = [x] := by simp [← e1]
    rw [this]
    rfl
theorem ze_lcM {scope : Scope} {own : List (Str × Nat)} {vs : List Nat} (f : PyData → PyData) (hi : ZI X tg iter s ds s1)
    (turn : ∀ x, x ∈ ds → ∃ t', (∀ z, ZG (bl X scope z) tg vs x ⟨wipeE s1.e vs, s1.R⟩ t') ∧ t'.R = s1.R ∧ ∀ z, ZE (bl X scope z) elt t' (.d (f x)) t') (hsz : ds.length < sizeLine) (hN : X.N.Nodup) (ok : BlkOk X.N X.env.scope scope own) (hvs : own.map (·.2) = vs := by rfl) (hc : X.calm = true := by rfl) (hs : ∀ x, foldedSetIterable iter X.env x = pure x := by intro _; rfl) :
    ZE X (.ListComp elt [⟨tg, iter, [], 0⟩] scope pos) s (.d (.list (ds.map f))) s1 := by
  have := ze_lcP (pos := pos) f (fun _ => true) hi (fun x hx => by
    obtain ⟨t', a1, a3, a4⟩ := turn x hx
    exact ⟨t', a1, a3, fun z => zts_nil, fun _ => a4⟩) hsz hN ok hvs hc hs
  rw [List.filter_eq_self.mpr (fun _ _ => rfl)] at this
  exact this
theorem rng_in {lo : Int} {n : Nat} {x : PyData} (h : x ∈ rng lo n) : ∃ k, k < n ∧ x = .int (lo + (k : Nat)) := by
  obtain ⟨k, h1, h2⟩ := List.mem_map.mp h
  exact ⟨k, by simpa using h1, h2.symm⟩
theorem rng_in0 {n : Nat} {x : PyData} (h : x ∈ rng 0 n) : ∃ k, k < n ∧ x = .int (k : Nat) := by
  obtain ⟨k, h1, h2⟩ := rng_in h
  exact ⟨k, h1, by rw [h2, Int.zero_add]⟩
theorem rng_map {n : Nat} {lo : Int} : rng lo n = (List.range n).map fun k => .int (lo + (k : Nat)) := rfl
end

/-! ### the same -/
mutual
def same : PyData → PyData → Bool
  | .tuple xs, .tuple ys => xs.length == ys.length && sames xs ys
  | .list xs, .list ys => xs.length == ys.length && sames xs ys
  | .bool a, .bool b => a == b
  | .int a, .int b => a == b
  | .str a, .str b => a == b
  | .none, .none => true
  | _, _ => false
def sames : List PyData → List PyData → Bool
  | x :: xs, y :: ys => same x y && sames xs ys
  | _, _ => true
end
mutual
/-- no dict, no row that is too long -/
def nar : PyData → Bool
  | .tuple xs => decide (xs.length < sizeLine) && nars xs
  | .list xs => decide (xs.length < sizeLine) && nars xs
  | .dict _ => false
  | _ => true
def nars : List PyData → Bool
  | [] => true
  | x :: xs => nar x && nars xs
end
mutual
theorem same_refl : ∀ x, nar x = true → same x x = true
  | .tuple xs, h => by
    simp only [nar, Bool.and_eq_true] at h
    simp only [same, beq_self_eq_true, Bool.true_and]
    exact sames_refl xs h.2
  | .list xs, h => by
    simp only [nar, Bool.and_eq_true] at h
    simp only [same, beq_self_eq_true, Bool.true_and]
    exact sames_refl xs h.2
  | .bool _, _ => by simp [same]
  | .int _, _ => by simp [same]
  | .str _, _ => by simp [same]
  | .none, _ => by simp [same]
  | .dict _, h => by simp [nar] at h
theorem sames_refl : ∀ xs, nars xs = true → sames xs xs = true
  | [], _ => by simp [sames]
  | x :: xs, h => by
    simp only [nars, Bool.and_eq_true] at h
    simp only [sames, same_refl x h.1, sames_refl xs h.2, Bool.and_self]
end
mutual
theorem same_eq : ∀ x y, same x y = true → x = y
  | .tuple xs, .tuple ys, h => by
    simp only [same, Bool.and_eq_true, beq_iff_eq] at h
    rw [sames_eq xs ys h.1 h.2]
  | .list xs, .list ys, h => by
    simp only [same, Bool.and_eq_true, beq_iff_eq] at h
    rw [sames_eq xs ys h.1 h.2]
  | .bool _, .bool _, h => by simpa [same] using h
  | .int _, .int _, h => by simpa [same] using h
  | .str _, .str _, h => by simpa [same] using h
  | .none, .none, _ => rfl
  | .tuple _, .list _, h | .tuple _, .bool _, h | .tuple _, .int _, h | .tuple _, .str _, h | .tuple _, .none, h | .tuple _, .dict _, h
  | .list _, .tuple _, h | .list _, .bool _, h | .list _, .int _, h | .list _, .str _, h | .list _, .none, h | .list _, .dict _, h
  | .bool _, .tuple _, h | .bool _, .list _, h | .bool _, .int _, h | .bool _, .str _, h | .bool _, .none, h | .bool _, .dict _, h
  | .int _, .tuple _, h | .int _, .list _, h | .int _, .bool _, h | .int _, .str _, h | .int _, .none, h | .int _, .dict _, h
  | .str _, .tuple _, h | .str _, .list _, h | .str _, .bool _, h | .str _, .int _, h | .str _, .none, h | .str _, .dict _, h
  | .none, .tuple _, h | .none, .list _, h | .none, .bool _, h | .none, .int _, h | .none, .str _, h | .none, .dict _, h
  | .dict _, .tuple _, h | .dict _, .list _, h | .dict _, .bool _, h | .dict _, .int _, h | .dict _, .str _, h | .dict _, .none, h | .dict _, .dict _, h => by simp [same] at h
theorem sames_eq : ∀ xs ys, xs.length = ys.length → sames xs ys = true → xs = ys
  | [], [], _, _ => rfl
  | [], _ :: _, h, _ => by simp at h
  | _ :: _, [], h, _ => by simp at h
  | x :: xs, y :: ys, h, k => by
    simp only [sames, Bool.and_eq_true] at k
    rw [same_eq x y k.1, sames_eq xs ys (by simpa using h) k.2]
end
theorem same_iff {x y : PyData} (h : nar x = true) : same x y = decide (x = y) := by
  by_cases e : x = y
  · subst e
    rw [same_refl x h, decide_eq_true rfl]
  · rw [decide_eq_false e]
    cases q : same x y with
    | false => rfl
    | true => exact absurd (same_eq x y q) e
theorem nars_get : ∀ {xs : List PyData} {i : Nat} {x : PyData}, nars xs = true → xs[i]? = some x → nar x = true
  | _ :: _, 0, _, h, e => by
    simp only [nars, Bool.and_eq_true] at h
    simp at e
    subst e
    exact h.1
  | _ :: _, i + 1, _, h, e => by
    simp only [nars, Bool.and_eq_true] at h
    exact nars_get h.2 (by simpa using e)
theorem deps_get : ∀ {xs : List PyData} {i : Nat} {x : PyData}, xs[i]? = some x → x.depth ≤ PyData.depthAll xs
  | _ :: _, 0, _, e => by
    simp at e
    subst e
    simp only [PyData.depthAll]
    omega
  | _ :: xs, i + 1, _, e => by
    have := deps_get (xs := xs) (i := i) (by simpa using e)
    simp only [PyData.depthAll]
    omega
theorem sames_all : ∀ (xs ys : List PyData), xs.length = ys.length → sames xs ys = ((List.range xs.length).map fun k => same (xs.getD k .none) (ys.getD k .none)).all id
  | [], [], _ => by simp [sames]
  | [], _ :: _, h => by simp at h
  | _ :: _, [], h => by simp at h
  | x :: xs, y :: ys, h => by
    rw [List.length_cons, List.range_succ_eq_map, List.map_cons, List.all_cons, List.map_map]
    simp only [sames]
    rw [sames_all xs ys (by simpa using h)]
    rfl
def smAt (xs ys : List PyData) (x : PyData) : PyData := match x with
  | .int k => .bool (same (xs.getD k.toNat .none) (ys.getD k.toNat .none))
  | _ => .none
theorem smAt_rng {xs ys : List PyData} (h : xs.length = ys.length) : ∃ bs : List Bool, (rng 0 xs.length).map (smAt xs ys) = bs.map .bool ∧ bs.all id = sames xs ys := by
  refine ⟨(List.range xs.length).map fun k => same (xs.getD k .none) (ys.getD k .none), ?_, (sames_all xs ys h).symm⟩
  unfold rng
  rw [List.map_map, List.map_map]
  refine List.map_congr_left fun k hk => ?_
  show smAt xs ys (.int (0 + (k : Nat))) = _
  unfold smAt
  simp
def aSm : PyData × PyData → List IT := fun z => [.d z.1, .d z.2]
def okSm (n : Nat) : PyData × PyData → Prop := fun z => nar z.1 = true ∧ nar z.2 = true ∧ min z.1.depth z.2.depth ≤ n
abbrev rSm : PyData × PyData → IT := fun z => .d (.bool (same z.1 z.2))
end Z

namespace Z
open PySem L2 PyProof.Rows
section
variable {X : Cx} {e a b c tg iter elt : Expr} {es ifs : List Expr} {st : Stmt} {rest body : List Stmt} {s s' s1 s2 s3 : S} {r r1 r2 r3 : SD} {rs : List SD} {pos p : Pos} {P : Po} {ds : List PyData}
/-- name = [comprehension], the name a local: kept for good, or of its own -/
theorem zss_setLcD {scope : Scope} {own : List (Str × Nat)} {vs : List Nat} {acc0 : List PyData} {R0 : List Own} {y : Str} {py spos : Pos} (i : Nat) (hi : ZI X tg iter s ds s1) (Iv : Nat → List PyData → List Own → Prop) (h0 : Iv 0 [] s1.R)
    (turn : ∀ i x acc R, ds[i]? = some x → Iv i acc R → ∃ t' Rt, (∀ z, ZG (bl X scope z) tg vs x ⟨wipeE s1.e vs, R⟩ t') ∧ (∀ z, ZTs (bl X scope z) ifs t' Rt) ∧ (∀ t2, Rt false t2 → Iv (i + 1) acc t2.R) ∧
      ∀ t2, Rt true t2 → ∃ y t3, (∀ z, ZE (bl X scope z) elt t2 (.d y) t3) ∧ Iv (i + 1) (acc ++ [y]) t3.R)
    (done : ∀ acc R, Iv ds.length acc R → acc = acc0 ∧ R = R0) (hsz : ds.length < sizeLine) (hN : X.N.Nodup) (ok : BlkOk X.N X.env.scope scope own) (hil : i < s1.e.length) (k : ZSs X rest ⟨s1.e.set i (.d (.list acc0)), R0⟩ P) (hvs : own.map (·.2) = vs := by rfl) (hc : X.calm = true := by rfl) (hs : ∀ x, foldedSetIterable iter X.env x = pure x := by intro _; rfl)
    (hy : X.N[i]? = some y := by rfl) (hyl : X.env.scope.names.lookup y = some .local := by rfl) (hsw : swapsWith (.ListComp elt [⟨tg, iter, ifs, 0⟩] scope pos) (some (.Name y py)) spos.line X.env = pure true := by rfl) :
    ZSs X (.Assign [.Name y py] (.ListComp elt [⟨tg, iter, ifs, 0⟩] scope pos) spos :: rest) s P := by
  obtain ⟨te, ⟨_, h⟩, run⟩ := lc_run (pos := pos) hvs Iv h0 turn hsz hi hN hc ok hs
  refine zss_seq (M := fun t => t = ⟨s1.e.set i (.d (.list acc0)), R0⟩) (PS.imp (h i y py spos hy hyl hsw) fun D σ H ⟨t, T, ρ, e1, hb, g, q⟩ => ?_) fun t e => by subst e; exact k
  subst e1
  refine run T σ ρ H _ g fun acc R ρ' D' H' iv p g' => ?_
  obtain ⟨e1, e2⟩ := done acc R iv
  subst e1 e2
  obtain ⟨F, f⟩ := g'.ok.fz
  have g2 : Sat X.K ⟨s1.e, R⟩ σ ρ' ((itOf (.d (.list acc)), some (.ref D')) :: T) H' := ⟨g'.le, g'.lr, g'.al, f.freeze⟩
  exact q.nx _ (σ.set i (some (.ref D'))) ρ' H' rfl ((List.take_prefix _ _).trans p) (Sat.put (s := ⟨s1.e, R⟩) (r := .d (.list acc)) hil trivial g2)
theorem zss_setLcO {scope : Scope} {own : List (Str × Nat)} {vs : List Nat} {acc0 : List PyData} {R0 : List Own} {y : Str} {py spos : Pos} (i : Nat) (hi : ZI X tg iter s ds s1) (Iv : Nat → List PyData → List Own → Prop) (h0 : Iv 0 [] s1.R)
    (turn : ∀ i x acc R, ds[i]? = some x → Iv i acc R → ∃ t' Rt, (∀ z, ZG (bl X scope z) tg vs x ⟨wipeE s1.e vs, R⟩ t') ∧ (∀ z, ZTs (bl X scope z) ifs t' Rt) ∧ (∀ t2, Rt false t2 → Iv (i + 1) acc t2.R) ∧
      ∀ t2, Rt true t2 → ∃ y t3, (∀ z, ZE (bl X scope z) elt t2 (.d y) t3) ∧ Iv (i + 1) (acc ++ [y]) t3.R)
    (done : ∀ acc R, Iv ds.length acc R → acc = acc0 ∧ R = R0) (hsz : ds.length < sizeLine) (hN : X.N.Nodup) (ok : BlkOk X.N X.env.scope scope own) (hil : i < s1.e.length) (k : ZSs X rest ⟨s1.e.set i (.r R0.length), R0 ++ [OL acc0]⟩ P) (hvs : own.map (·.2) = vs := by rfl) (hc : X.calm = true := by rfl) (hs : ∀ x, foldedSetIterable iter X.env x = pure x := by intro _; rfl)
    (hy : X.N[i]? = some y := by rfl) (hyl : X.env.scope.names.lookup y = some .local := by rfl) (hsw : swapsWith (.ListComp elt [⟨tg, iter, ifs, 0⟩] scope pos) (some (.Name y py)) spos.line X.env = pure true := by rfl) :
    ZSs X (.Assign [.Name y py] (.ListComp elt [⟨tg, iter, ifs, 0⟩] scope pos) spos :: rest) s P := by
  obtain ⟨te, ⟨_, h⟩, run⟩ := lc_run (pos := pos) hvs Iv h0 turn hsz hi hN hc ok hs
  refine zss_seq (M := fun t => t = ⟨s1.e.set i (.r R0.length), R0 ++ [OL acc0]⟩) (PS.imp (h i y py spos hy hyl hsw) fun D σ H ⟨t, T, ρ, e1, hb, g, q⟩ => ?_) fun t e => by subst e; exact k
  subst e1
  refine run T σ ρ H _ g fun acc R ρ' D' H' iv p g' => ?_
  obtain ⟨e1, e2⟩ := done acc R iv
  subst e1 e2
  have g2 : Sat X.K ⟨s1.e, R ++ [OL acc]⟩ σ (ρ' ++ [.ref D']) T H' := Sat.push (s := ⟨s1.e, R⟩) g'.ok g'.le g'.lr g'.al
  exact q.nx _ (σ.set i (some (.ref D'))) _ H' rfl ((List.take_prefix _ _).trans (p.trans (List.prefix_append _ _))) (Sat.put (s := ⟨s1.e, R ++ [OL acc]⟩) (r := .r R.length) hil (Sat.newVR (s := ⟨s1.e, R⟩) g') g2.tun)
/-- turns that leave the objects -/
theorem zss_setLcP {scope : Scope} {own : List (Str × Nat)} {vs : List Nat} {y : Str} {py spos : Pos} (i : Nat) (f : PyData → PyData) (pr : PyData → Bool) (hi : ZI X tg iter s ds s1)
    (turn : ∀ x, x ∈ ds → ∃ t', (∀ z, ZG (bl X scope z) tg vs x ⟨wipeE s1.e vs, s1.R⟩ t') ∧ t'.R = s1.R ∧ (∀ z, ZTs (bl X scope z) ifs t' (Is (pr x) t')) ∧ (pr x = true → ∀ z, ZE (bl X scope z) elt t' (.d (f x)) t')) (hsz : ds.length < sizeLine) (hN : X.N.Nodup) (ok : BlkOk X.N X.env.scope scope own)
    (hil : i < s1.e.length) (k : ZSs X rest ⟨s1.e.set i (.d (.list ((ds.filter pr).map f))), s1.R⟩ P) (hvs : own.map (·.2) = vs := by rfl) (hc : X.calm = true := by rfl) (hs : ∀ x, foldedSetIterable iter X.env x = pure x := by intro _; rfl)
    (hy : X.N[i]? = some y := by rfl) (hyl : X.env.scope.names.lookup y = some .local := by rfl) (hsw : swapsWith (.ListComp elt [⟨tg, iter, ifs, 0⟩] scope pos) (some (.Name y py)) spos.line X.env = pure true := by rfl) :
    ZSs X (.Assign [.Name y py] (.ListComp elt [⟨tg, iter, ifs, 0⟩] scope pos) spos :: rest) s P := by
  refine zss_setLcD (R0 := s1.R) i hi (fun i acc R => acc = ((ds.take i).filter pr).map f ∧ R = s1.R) ⟨by simp, rfl⟩ (fun i x acc R hx ⟨h1, h2⟩ => ?_) (fun acc R ⟨h1, h2⟩ => ⟨by rw [h1, List.take_length], h2⟩) hsz hN ok hil k hvs hc hs hy hyl hsw
  subst h1 h2
  obtain ⟨t', a1, a2, a3, a4⟩ := turn x (List.mem_of_getElem? hx)
  have tk : ds.take (i + 1) = ds.take i ++ [x] := by rw [List.take_add_one, hx]; rfl
  refine ⟨t', Is (pr x) t', a1, a3, fun t2 ⟨e1, e2⟩ => ⟨?_, by rw [e2, a2]⟩, fun t2 ⟨e1, e2⟩ => ?_⟩
  · rw [tk, List.filter_append, List.map_append]
    have : List.filter pr [x] = [] := by simp [← e1]
    rw [this]
    simp
  · subst e2
    refine ⟨f x, t2, a4 e1.symm, ?_, a2⟩
    rw [tk, List.filter_append, List.map_append]
    have : List.filter pr [x] = [x] := by simp [← e1]
    rw [this]
    rfl
/-- a, b = x, y -/
theorem zss_par2 {x y : Str} {px py pt pt2 : Pos} {kt k2 : Nat} (i j : Nat) (ha : ZA X [a, b] s [r1, r2] s1) (hi : i < s1.e.length) (hj : j < s1.e.length) (k : ZSs X rest ⟨(s1.e.set i r1).set j r2, s1.R⟩ P) (hN : X.N.Nodup) (hij : i ≠ j := by decide) (hc : X.calm = true := by rfl) (hx : X.N[i]? = some x := by rfl) (hy : X.N[j]? = some y := by rfl)
    (hlx : X.env.scope.names.lookup x = some .local := by rfl) (hly : X.env.scope.names.lookup y = some .local := by rfl)
    (hw : swappedStores [.Tuple [.Name x px, .Name y py] kt pt] (.Tuple [a, b] k2 pt2) X.env = pure (some [x, y]) := by rfl) (hs : swapsWithSole [.Tuple [.Name x px, .Name y py] kt pt] (.Tuple [a, b] k2 pt2) pos.line X.env = pure false := by rfl) :
    ZSs X (.Assign [.Tuple [.Name x px, .Name y py] kt pt] (.Tuple [a, b] k2 pt2) pos :: rest) s P := by
  refine zss_seq (M := fun t => t = ⟨(s1.e.set i r1).set j r2, s1.R⟩) (PS.imp (ps_par hc hN hx hy hij hlx hly ha hw hs) fun D σ H ⟨t, T, ρ, e1, hb, g, q⟩ => ?_) fun t e => by subst e; exact k
  subst e1
  refine ⟨T, ρ, g, fun vs ρ' H' p vr g' => ?_⟩
  obtain ⟨v, w, e1, h1, h2⟩ := vrs2 vr
  subst e1
  have g1 : Sat X.K ⟨s1.e.set i r1, s1.R⟩ (σ.set i (some v)) ρ' ((itOf r2, some w) :: T) H' := Sat.put hi h1 g'
  have g2 : Sat X.K ⟨(s1.e.set i r1).set j r2, s1.R⟩ ((σ.set i (some v)).set j (some w)) ρ' T H' := Sat.put (s := ⟨s1.e.set i r1, s1.R⟩) (by simpa using hj) h2 g1
  exact ⟨v, w, rfl, q.nx _ _ ρ' H' rfl ((List.take_prefix _ _).trans p) g2⟩
theorem vrs3 {ρ : List V} {us : List V} (h : VRs [r1, r2, r3] ρ us) : ∃ u v w, us = [u, v, w] ∧ VR r1 ρ u ∧ VR r2 ρ v ∧ VR r3 ρ w := by
  obtain ⟨h1, h2⟩ := h
  match us, h1 with
  | [u, v, w], _ => exact ⟨u, v, w, rfl, h2 0 _ u rfl rfl, h2 1 _ v rfl rfl, h2 2 _ w rfl rfl⟩
theorem zss_par3 {x y z : Str} {px py pz pt pt2 : Pos} {kt k2 : Nat} (i j l : Nat) (ha : ZA X [a, b, c] s [r1, r2, r3] s1) (hi : i < s1.e.length) (hj : j < s1.e.length) (hl : l < s1.e.length) (k : ZSs X rest ⟨((s1.e.set i r1).set j r2).set l r3, s1.R⟩ P) (hN : X.N.Nodup) (hij : i ≠ j := by decide) (hil : i ≠ l := by decide) (hjl : j ≠ l := by decide) (hc : X.calm = true := by rfl) (hx : X.N[i]? = some x := by rfl) (hy : X.N[j]? = some y := by rfl) (hz : X.N[l]? = some z := by rfl)
    (hlx : X.env.scope.names.lookup x = some .local := by rfl) (hly : X.env.scope.names.lookup y = some .local := by rfl) (hlz : X.env.scope.names.lookup z = some .local := by rfl)
    (hw : swappedStores [.Tuple [.Name x px, .Name y py, .Name z pz] kt pt] (.Tuple [a, b, c] k2 pt2) X.env = pure (some [x, y, z]) := by rfl) (hs : swapsWithSole [.Tuple [.Name x px, .Name y py, .Name z pz] kt pt] (.Tuple [a, b, c] k2 pt2) pos.line X.env = pure false := by rfl) :
    ZSs X (.Assign [.Tuple [.Name x px, .Name y py, .Name z pz] kt pt] (.Tuple [a, b, c] k2 pt2) pos :: rest) s P := by
  refine zss_seq (M := fun t => t = ⟨((s1.e.set i r1).set j r2).set l r3, s1.R⟩) (PS.imp (ps_par3 hc hN hx hy hz hij hil hjl hlx hly hlz ha hw hs) fun D σ H ⟨t, T, ρ, e1, hb, g, q⟩ => ?_) fun t e => by subst e; exact k
  subst e1
  refine ⟨T, ρ, g, fun vs ρ' H' p vr g' => ?_⟩
  obtain ⟨u, v, w, e1, h1, h2, h3⟩ := vrs3 vr
  subst e1
  have g1 : Sat X.K ⟨s1.e.set i r1, s1.R⟩ (σ.set i (some u)) ρ' ((itOf r2, some v) :: (itOf r3, some w) :: T) H' := Sat.put hi h1 g'
  have g2 : Sat X.K ⟨(s1.e.set i r1).set j r2, s1.R⟩ ((σ.set i (some u)).set j (some v)) ρ' ((itOf r3, some w) :: T) H' := Sat.put (s := ⟨s1.e.set i r1, s1.R⟩) (by simpa using hj) h2 g1
  have g3 : Sat X.K ⟨((s1.e.set i r1).set j r2).set l r3, s1.R⟩ (((σ.set i (some u)).set j (some v)).set l (some w)) ρ' T H' := Sat.put (s := ⟨(s1.e.set i r1).set j r2, s1.R⟩) (by simpa using hl) h3 g2
  exact ⟨u, v, w, rfl, q.nx _ _ ρ' H' rfl ((List.take_prefix _ _).trans p) g3⟩
/-- a, b = a tuple; any target -/
theorem zss_asg {vs : List Nat} {x : PyData} (he : ZE X e s (.d x) s1) (hg : ZG X tg vs x s1 s2) (k : ZSs X rest s2 P) (hs : swapsWithSole [tg] e pos.line X.env = pure false := by rfl) (hw : swappedStores [tg] e X.env = pure none := by rfl) (h1 : (assignEach [tg] X.env).map (·.2) = [assign tg X.env] := by rfl) :
    ZSs X (.Assign [tg] e pos :: rest) s P :=
  zss_seq (M := fun t => t = s2) (PS.imp (ps_asg he hg hs hw h1) fun D σ H ⟨t, T, ρ, e1, hb, g, q⟩ => by
    subst e1
    exact ⟨T, ρ, g, fun v ρ' H' p vr g' => ⟨T, ρ', g', fun σ' o g2 => q.nx _ σ' ρ' H' rfl ((List.take_prefix _ _).trans p) g2⟩⟩) fun t e => by subst e; exact k
/-- x += an int, x -= an int -/
theorem zss_aug {op : Operator} {f : Int → Int → Int} {x : Str} {p' : Pos} (ho : PIp X op (ipI f)) (i : Nat) {u w : Int} (hu : s1.e[i]? = some (.d (.int u))) (hu0 : s.e[i]? = some (.d (.int u))) (h : ZE X e s (.d (.int w)) s1) (k : ZSs X rest ⟨s1.e.set i (.d (.int (f u w))), s1.R⟩ P) (hN : X.N.Nodup) (hx : X.N[i]? = some x := by rfl) (hl : Loc X.env.scope x := by first | exact .inl rfl | exact .inr rfl)
    (hf : X.fn x = true ∨ X.env.scope.names.lookup x = some .local := by first | exact .inl rfl | exact .inr rfl) : ZSs X (.AugAssign (.Name x p') op e pos :: rest) s P :=
  zss_seq (M := fun t => t = ⟨s1.e.set i (.d (.int (f u w))), s1.R⟩) (PS.imp (ps_aug hN hx hl h ho hf) fun D σ H ⟨t, T, ρ, e1, hb, g, q⟩ => by
    subst e1
    obtain ⟨v0, h0, g0⟩ := g.slot hu0
    have ev := see_int (i := u) (v := v0) g0 List.mem_cons_self
    subst ev
    refine ⟨_, h0, T, ρ, g, fun v ρ' H' p vr g' => ?_⟩
    have ew := see_int (i := w) (v := v) g' List.mem_cons_self
    subst ew
    refine ⟨u, w, rfl, rfl, q.nx _ _ ρ' H' rfl ((List.take_prefix _ _).trans p) (Sat.put (r := .d (.int (f u w))) (List.getElem?_eq_some_iff.mp hu).1 trivial (g'.tdrop.tflat (show flat (.int _) (.int _) from rfl)))⟩) fun t e => by subst e; exact k
end
end Z

namespace HT
open PySem PySem.Spec PyProof.Rows
section
variable {prog : Program} {w : World} {A : Around} {E : Value → Shared → Prop} {s : Shared}
theorem places_rev (n : Nat) : Builtin.Slice.slicePlaces ((n : Int) - 1) (-1) (-1) = n := by
  unfold Builtin.Slice.slicePlaces
  rw [if_neg (by decide)]
  by_cases h : (n : Int) - 1 > -1
  · rw [if_pos h]
    have : (((n : Int) - 1) - (-1) - 1) / (- -1) + 1 = n := by
      rw [show (- (-1 : Int)) = 1 from rfl, Int.ediv_one]
      omega
    rw [this]
    simp
  · rw [if_neg h]
    simp
    omega
theorem sliceApplied_rev {sl : Addr} {vl vu vs : Value} {n : Nat} {Q : Int × Int × Nat → Shared → Prop} (hs : s.heap.IsSliceOf sl vl vu vs) (pl : IsPart vl none) (pu : IsPart vu none) (ps : IsPart vs (some (-1)))
    (h : Q ((n : Int) - 1, -1, n) s) : wpAny (model prog w) A (Builtin.Slice.sliceApplied (.ref sl) (pure (n : Int))) Q E s := by
  obtain ⟨os, hos, hcs, hds⟩ := id hs
  unfold Builtin.Slice.sliceApplied Builtin.Slice.sliceFields
  refine wpAny_bind (wpAny_bind (wpAny_field hos hds (x := vl) rfl (wpAny_bind (wpAny_field hos hds (x := vu) rfl (wpAny_bind (wpAny_field hos hds (x := vs) rfl (wpAny_pure ?_)))))))
  refine wpAny_bind (slicePart_ ps ?_)
  show wpAny _ _ (if ((-1 : Int) == 0) = true then _ else _) _ _ s
  rw [if_neg (by decide)]
  refine wpAny_bind (slicePart_ pl (wpAny_bind (slicePart_ pu (wpAny_bind (wpAny_pure ?_)))))
  show wpAny _ _ (pure ((n : Int) - 1, (-1 : Int), Builtin.Slice.slicePlaces ((n : Int) - 1) (-1) (-1))) _ _ s
  rw [places_rev]
  exact wpAny_pure h
theorem fm_congr {α β : Type} {f g : α → Option β} : ∀ {l : List α}, (∀ x ∈ l, f x = g x) → l.filterMap f = l.filterMap g
  | [], _ => rfl
  | x :: l, h => by
    rw [List.filterMap_cons, List.filterMap_cons, h x List.mem_cons_self, fm_congr fun y hy => h y (List.mem_cons_of_mem _ hy)]
theorem pick_rev (xs : Array Value) : ((List.range xs.size).filterMap fun (m : Nat) => xs[(((xs.size : Int) - 1) + (m : Int) * (-1)).toNat]?).toArray = xs.toList.reverse.toArray := by
  congr 1
  have h1 : ∀ (l : List Value), ((List.range l.length).filterMap fun (m : Nat) => l[(((l.length : Int) - 1) + (m : Int) * (-1)).toNat]?) = l.reverse := by
    intro l
    have h2 : ∀ m ∈ List.range l.length, l[(((l.length : Int) - 1) + (m : Int) * (-1)).toNat]? = l.reverse[m]? := fun m hm => by
      have hm : m < l.length := by simpa using hm
      rw [List.getElem?_reverse hm]
      congr 1
      omega
    rw [fm_congr h2]
    have h3 : ∀ (r : List Value), (List.range r.length).filterMap (fun m => r[m]?) = r := by
      intro r
      induction r with
      | nil => rfl
      | cons a r ih =>
        rw [List.length_cons, List.range_succ_eq_map, List.filterMap_cons]
        simp only [List.getElem?_cons_zero, List.filterMap_map]
        congr 1
    have := h3 l.reverse
    rw [List.length_reverse] at this
    exact this
  have := h1 xs.toList
  simpa using this
theorem getItem_tuple_rev {t sl : Addr} {items : Array Value} {vl vu vs : Value} {Q : Value → Shared → Prop} (ht : IsTup s.heap t items) (hs : s.heap.IsSliceOf sl vl vu vs) (pl : IsPart vl none) (pu : IsPart vu none) (ps : IsPart vs (some (-1)))
    (h : Q (.ref s.heap.objs.size) { s with heap := s.heap.push { cls := .type "tuple", data := .seq items.toList.reverse.toArray } })
    (hsz : items.size ≤ sizeLine) : wpAny (model prog w) A (getItem (.ref t) (.ref sl)) Q E s := by
  have htake : sizeOk (.seq items.toList.reverse.toArray) := by
    show items.toList.reverse.toArray.size ≤ sizeLine
    rw [List.size_toArray, List.length_reverse, Array.length_toList]
    exact hsz
  obtain ⟨os, hos, hcs, hds⟩ := id hs
  have hTs : s.TypeIs (.ref sl) "slice" := ⟨os, hos, hcs⟩
  unfold getItem
  try with_reducible refine wpAny_holding ?_
  first | refine wpAny_bind (wpAny_pure ?_) | skip
  refine wpAny_bind (wpAny_sequenceKey ht.typeIs (by decide) ?_)
  refine wpAny_bind (wpAny_callSpecial?_slot (name := Str.ofString "__getitem__") ht.typeIs PyProof.Rows.slot_tuple_getitem
    (wpAny_call_entry PyProof.Rows.slot_tuple_getitem ht.typeIs entry_tuple_getitem ?_ (args_tuple_getitem _ _)))
  show wpAny _ _ (Builtin.Tuple.tupleItemsOf (.ref t) >>= _) _ _ s
  refine wpAny_bind (tupleItemsOf_ ht ?_)
  refine wpAny_bind (wpAny_typeOf hTs ?_)
  rw [if_pos (by decide)]
  refine wpAny_bind (sliceApplied_rev hs pl pu ps ?_)
  have hno : ¬ ((((items.size : Int) - 1) == 0 && (-1 : Int) == 1 && items.size == items.size) = true) := by
    intro q
    rw [Bool.and_eq_true, Bool.and_eq_true] at q
    exact absurd q.1.2 (by decide)
  show wpAny _ _ (if (((items.size : Int) - 1) == 0 && (-1 : Int) == 1 && items.size == items.size) = true then _ else _) _ _ s
  rw [if_neg hno, pick_rev]
  first
    | exact wpAny_bind (m := Builtin.Tuple.tupleExact _) (wpAny_newObj_type (wpAny_pure ⟨_, rfl, wpAny_pure h⟩) htake)
    | exact wpAny_bind (m := Builtin.Tuple.tupleExact _) (wpAny_newObj_type (wpAny_bind (wpAny_pure (wpAny_pure ⟨_, rfl, wpAny_pure h⟩))) htake)
    | exact wpAny_bind (wpAny_bind (m := Builtin.Tuple.tupleExact _) (wpAny_newObj_type (wpAny_pure (wpAny_pure ⟨_, rfl, wpAny_pure h⟩)) htake))
    | exact wpAny_bind (wpAny_bind (m := Builtin.Tuple.tupleExact _) (wpAny_newObj_type (wpAny_pure ⟨_, rfl, wpAny_pure h⟩) htake))
end
end HT
namespace Z
open PySem L2 PyProof.Rows
def tRevT (K : PySem.W.Frag) (te : TE) : TE := fun σ H Q => te σ H fun x H1 => ∃ a xs, x = .ref a ∧ SqT K H1 a xs ∧ ∀ p, H1 p = none → Q (.ref p) (upd H1 p (.tup xs.reverse))
section
variable {X : Cx} {a : Expr} {s s1 : S} {r : SD} {ds : List PyData}
theorem pe_revT {e : Expr} {te : TE} {k : Nat} {p1 p2 p3 pos : Pos} (he : PE X e te) : PE X (.Subscript e (.Slice none none (some (.UnaryOp .USub (.Constant (.int 1) k p1) p2)) p3) pos) (tRevT X.K te) := by
  refine ⟨fun pins s σ H Q I h => ?_⟩
  refine Subscript_ (thn (he.run pins s σ H _ I h) fun v s1 ⟨x, H1, I1, r1, q1⟩ => ?_)
  obtain ⟨a, xs, ex, hx, q⟩ := q1
  subst ex
  cases r1
  have hst : PO X (some (.UnaryOp .USub (.Constant (.int 1) k p1) p2)) (tPart (tUn (rU fun i => .int (-i)) (tC (.int 1)))) := po_some (pe_un un_neg pe_int)
  refine wpAny_Slice (thn (po_none.run pins s1 σ H1 (fun o H2 => o = none ∧ H2 = H1) I1 ⟨rfl, rfl⟩) fun vl s2 ⟨l, H2, I2, pl, el, e2⟩ => ?_)
  subst el e2
  refine thn (po_none.run pins s2 σ H2 (fun o H3 => o = none ∧ H3 = H2) I2 ⟨rfl, rfl⟩) fun vu s3 ⟨u, H3, I3, pu, eu, e3⟩ => ?_
  subst eu e3
  refine thn (hst.run pins s3 σ H3 (fun o H4 => o = some (-1) ∧ H4 = H3) I3 ⟨1, rfl, -1, rfl, rfl, rfl⟩) fun vs s4 ⟨o, H4, I4, ps, eo, e4⟩ => ?_
  subst eo e4
  have I5 : Inv X pins σ H4 { s4 with heap := s4.heap.push { cls := .type "slice", data := .fields #[vl, vu, vs] } } := I4.kept (t' := s4.toks) fun b ob q => Heap.get?_push_of_some _ q
  obtain ⟨its, r, ht, hz⟩ := I5.tuple hx
  have hlen := r.length
  show wpAny (model X.prog X.w) X.A (subscriptTail e (.Slice none none (some (.UnaryOp .USub (.Constant (.int 1) k p1) p2)) p3) (.ref a) (.ref s4.heap.objs.size)) (EP X pins σ Q) X.xe { s4 with heap := s4.heap.push { cls := .type "slice", data := .fields #[vl, vu, vs] } }
  refine tail_any (ops := [.ref a, .ref s4.heap.objs.size]) ht.typeIs (PyProof.Rows.slot_tuple_getitem.lookup) ?_ (by with_unfolding_all rfl)
  refine HT.getItem_tuple_rev ht (Heap.IsSliceOf.new _ vl vu vs) pl pu ps ?_ (by rw [List.size_toArray]; omega)
  refine ⟨.ref _, _, I5.laid (t' := s4.toks) (o := .tup xs.reverse) (fun b ob q => Heap.get?_push_of_some _ q) (Nat.le_refl _) ?_, rfl, q _ (I5.hok.fresh (Nat.le_refl _))⟩
  exact ⟨by rw [List.length_reverse]; exact hz, _, r.reverse, IsTup.new _ _⟩
theorem ze_revT {k : Nat} {p1 p2 p3 pos : Pos} (w : Vw s1 r (.tuple ds)) (ha : ZE X a s r s1) : ZE X (.Subscript a (.Slice none none (some (.UnaryOp .USub (.Constant (.int 1) k p1) p2)) p3) pos) s (.d (.tuple ds.reverse)) s1 :=
  PE.imp (pe_revT ha) fun σ H Q ⟨T, ρ, g, k⟩ => ⟨T, ρ, g, fun v ρ1 H1 p1 vr1 g1 => by
    obtain ⟨F, p, vs, e1, hs, hd, f⟩ := g1.seeT List.mem_cons_self w
    subst e1
    exact ⟨p, vs, rfl, hs, fun q hq => k _ ρ1 _ p1 trivial (g1.out1 (f.tup (dpsRev hd) hq))⟩⟩
theorem ze_revL {k : Nat} {p1 p2 p3 pos : Pos} (w : Vw s1 r (.list ds)) (ha : ZE X a s r s1) : ZE X (.Subscript a (.Slice none none (some (.UnaryOp .USub (.Constant (.int 1) k p1) p2)) p3) pos) s (.d (.list ds.reverse)) s1 :=
  PE.imp (pe_revL ha) fun σ H Q ⟨T, ρ, g, k⟩ => ⟨T, ρ, g, fun v ρ1 H1 p1 vr1 g1 => by
    obtain ⟨F, p, vs, e1, hs, hd, f⟩ := g1.seeL List.mem_cons_self vr1 w
    subst e1
    exact ⟨p, vs, rfl, hs, fun q hq => k _ ρ1 _ p1 trivial (g1.out1 (f.lstD (dpsRev hd) hq))⟩⟩
variable {b : Expr} {s2 : S} {i j : Int} {pos : Pos}
theorem ze_pow (hc : CPow i j) (ha : ZE X a s (.d (.int i)) s1) (hb : ZE X b s1 (.d (.int j)) s2) : ZE X (.BinOp a .Pow b pos) s (.d (.int (i ^ j.toNat))) s2 := ze_op op_pow ha hb (bi_intC hc (show flat (.int _) (.int _) from rfl))
end
end Z

namespace Z
open PySem L2 PyProof.Rows
theorem draw_ex {b : Bx} {m : Int} (h : BOK b) (hm : 0 < m) : ∃ d b', drawB b m = (d, b') ∧ 0 ≤ d ∧ d < m ∧ BOK b' :=
  let ⟨⟨h1, h2⟩, h3⟩ := draw_ok h hm
  ⟨_, _, rfl, h1, h2, h3⟩
theorem dr_ok {b : Bx} {m : Int} (h : BOK b) (hm : 0 < m) (h2 : m.natAbs < 2 ^ 200) : okDr (b, m) := ⟨h, hm, PySem.Flt.log2_lt_of (by decide) (Nat.lt_of_lt_of_le h2 (Nat.pow_le_pow_right (by decide) (by decide)))⟩
theorem roomS {A : Around} {d : PyData} (hu : A.units + 64 < cLine) (h : d.depth ≤ 60) : A.units + 2 + d.depth < cLine := by omega
section
variable {X : Cx} {x1 x2 e : Expr} {s s1 s' : S} {p pos : Pos} {o k j : Nat} {b b' : Bx} {m d : Int} {kk kk' : Bool}
theorem ze_draw (c : Cal X.prog X.w X.K X.mg X.base k "_law_draw" (preOf aDr okDr) (relOf aDr okDr rDraw oDraw)) (e : drawB b m = (d, b')) (ha : ZA X [x1, x2] s [.r o, .d (.int m)] s1) (ho : s1.R[o]? = some (OBox b)) (hb : BOK b) (hr : Room j X.A) (hm : 0 < m := by decide) (h2 : m.natAbs < 2 ^ 200 := by decide) (hk : k ≤ j := by omega)
    (h : Cl X "_law_draw" x1 [x2] pos := by exact ⟨rfl, rfl, rfl⟩) : ZE X (.Call (.Name "_law_draw" p) [x1, x2] [] pos) s (.d (.int d)) ⟨s1.e, s1.R.set o (OBox b')⟩ := by
  have := ze_callS1 (p := p) (b, m) c ha (dr_ok hb hm h2) ho rfl rfl hr hk rfl rfl h (by decide)
  rw [e] at this
  exact this
theorem zt_k (h : ZT X e s (Is kk s')) (q : kk = kk') : ZT X e s (Is kk' s') := by subst q; exact h
theorem ZE.i {i i' : Int} (h : ZE X e s (.d (.int i)) s') (q : i = i') : ZE X e s (.d (.int i')) s' := by subst q; exact h
theorem ZE.x {i i' : PyData} (h : ZE X e s (.d i) s') (q : i = i') : ZE X e s (.d i') s' := by subst q; exact h
end
end Z

namespace Z
open PySem L2 PyProof.Rows
section
variable {P : Program} {w : World} {K : PySem.W.Frag} {mg : Str → Option Value} {base : Heap} {x : Str} {st : Stmt} {ps N : List Str} {k : Nat}
theorem fn_dfn {f : Addr} {od an : Option Addr} {sl : Array (Option Value)} {oc kV dc pm cd ct : Value} {h : Heap} (X : K.In h) (G : h.Ns PySem.mainGlobals mg)
    (a : PySem.W.nsIn K PySem.mainGlobals x = some (some (.ref f))) (l : K.lookup f = some ⟨oc, od, .func (PySem.W.fnOf x x (defArgs st) (defBody st) (defScope st) .none kV dc pm an cd ct), sl⟩) (c : PySem.W.codeIn K cd x = true) (q : PySem.W.keepIn K (.ref f) = true)
    (b : ∀ (kV doc pm : Value) (an : Option Addr) (cdv ct : Value) (us : List Value), us.length = ps.length → bindArgs (PySem.W.fnOf x x (defArgs st) (defBody st) (defScope st) .none kV doc pm an cdv ct) ⟨us, []⟩ = pure (ps.zip us)) : Dfn K mg x st ps := by
  have F := fun_mk (st := st) l c q
  exact ⟨f, _, F, PySem.W.mg_of X G a, F.binds b⟩
theorem bl_of {F H : Hp} {v : V} {T : List En} {b : Bool} (h : OK K ((IT.d (.bool b), some v) :: T) H) : v = .bl b := by
  obtain ⟨F, f⟩ := h.fz
  obtain ⟨u, e, d⟩ := f.at List.mem_cons_self
  cases e
  cases d
  rfl
def aSc0 : List Int → List IT := fun ns => [.d (.list (ns.map .int))]
theorem dps_of_ints (K : PySem.W.Frag) (F : Hp) : ∀ ns : List Int, DpAll K F (ns.map V.int) (ns.map .int)
  | [] => .nil
  | n :: ns => .cons (.int n) (dps_of_ints K F ns)
/-- the law's head -/
def spL (K : PySem.W.Frag) : Sp := spZ K (preOf aSc0 (fun ns => ns.length ≤ 63)) (relOf aSc0 (fun ns => ns.length ≤ 63) (fun _ => .d (.bool true)) (fun _ => []))
theorem head_ok {H : Hp} {a : Addr} {ns : List Int} (hl : ns.length ≤ 63) (hS : SqL K H a (ns.map V.int)) : spL K [.ref a] H (fun v _ => v = .bl true) fun _ _ _ => False := by
  refine ⟨aSc0 ns, [], ⟨ns, hl, rfl⟩, rfl, ⟨H, [((.d (.list (ns.map .int)), some (.ref a)), [])], rfl, Ext.refl H, fun x hx => ?_, by simp [fpsOf], fun b hb => by simp [fpsOf] at hb⟩, fun z Os v H' hz ok => ?_⟩
  · have e : x = ((.d (.list (ns.map .int)), some (.ref a)), []) := by simpa using hx
    subst e
    exact ⟨rfl, _, rfl, .lst hS (dps_of_ints K H ns)⟩
  · obtain ⟨e, _⟩ := hz ns hl rfl
    subst e
    exact bl_of (F := H) ok
/-- a law by its Cal -/
theorem law_fn {f : Addr} {fd : FuncData} (F : Fun K x x st f fd) (hm : mg x = some (.ref f)) (S : FnScope N ["script"] (defScope st))
    (body : ∀ (f : Addr) (cdv : Value) (Ar : Around) (outer : List Env) (s : Shared) (H : Hp) (E : XK) (ns : List Int), ns.length ≤ 63 → Room k (Ar.deeper (envOfC x (defScope st) s.heap.objs.size f cdv)) →
      ZSs (cxOf CX0 P w K mg base N x (defScope st) f cdv Ar outer s H E).nox (defBody st) (inSt (aSc0 ns) (N.length - 1)) (poS 0 (.d (.bool true)) [])) : FnOk P w K mg base CX0 (k + 1) f fd ["script"] (spL K) := by
  refine F.ok S (fun vs H Q E h => ?_) (fun cdv A outer s H vs Q E hr h => ?_)
  · obtain ⟨ds, T, ⟨ns, _, e⟩, b, _⟩ := h
    subst e
    rw [← b]
    rfl
  · obtain ⟨ds, T, ⟨ns, hn, e⟩, b, c, d⟩ := h
    subst e
    refine run_body (X := (cxOf CX0 P w K mg base N x (defScope st) f cdv A outer s H E).nox) (N := N) rfl b c d ?_
    have e : vs.length = 1 := by rw [← b]; rfl
    rw [e]
    refine PSs.wk (body f cdv A outer s H E ns hn hr) rfl (fun t ⟨h1, h2⟩ => ?_) (fun r t h => ?_) (fun _ z => z) (fun _ z => z)
    · cases h1
    · cases r with
      | un => exact h
      | d v =>
        obtain ⟨h1, h2⟩ := h
        intro z hz e
        exact ⟨h1.symm, h2⟩
      | r j =>
        obtain ⟨hb, h, h2⟩ := h
        rcases h with ⟨O, hO, h1⟩ | ⟨es, hO, h1⟩ <;> cases h1
end
end Z

namespace Z
open PySem L2 PyProof.Rows

/-! ### looks at a member of a set -/
section
variable {P : Program} {w : World}
theorem cls_row {A : Around} {E : Value → Shared → Prop} {s : Shared} (n : Nat) (ds : List PyData) (ih : ∀ d ∈ ds, ∀ (v : Value) (Q : Bool → Shared → Prop), isAt s.heap d v → Q false s → wpAny (model P w) A (ofAClassStatement n v) Q E s)
    (v : Value) (Q : Bool → Shared → Prop) (hx : isAt s.heap (.tuple ds) v) (q : Q false s) : wpAny (model P w) A (ofAClassStatement (n + 1) v) Q E s := by
  obtain ⟨c, rfl, oc, its, m, h1, h2, h3, h4⟩ := hx
  have ty : s.TypeIs (.ref c) "tuple" := ⟨oc, h1, h2⟩
  have same : (("tuple" : String) == "tuple") = true := by decide
  unfold ofAClassStatement
  refine wpAny_bind (wpAny_typeOf ty ?_)
  dsimp only
  simp only [same, if_true, Bool.not_true, Bool.false_eq_true, if_false]
  try refine wpAny_bind (wpAny_pure ?_)
  try simp only [Bool.not_true, Bool.false_eq_true, if_false]
  show wpAny _ _ (seqItems? (.ref c) >>= _) _ _ s
  refine wpAny_bind (wpAny_seqItems h1 h3 ?_)
  dsimp only
  refine wpAny_bind ?_
  show wpAny _ _ (forIn its _ _) _ _ s
  rw [← Array.forIn_toList]
  refine wpAny_forIn_list _ (fun rest z s' => z.1 = none ∧ s' = s ∧ ∃ d1 d2, ds = d1 ++ d2 ∧ isAts s.heap d2 rest) _ ?_ ?_ _ _ ⟨rfl, rfl, [], ds, rfl, h4⟩
  · rintro u rest z s' ⟨hz, rfl, d1, d2, e1, e2⟩
    cases d2 with
    | nil => exact e2.elim
    | cons d d2 =>
      refine wpAny_bind (ih d (by rw [e1]; simp) u _ e2.1 ?_)
      simp only [Bool.false_eq_true, if_false]
      exact wpAny_pure ⟨rfl, rfl, d1 ++ [d], d2, by rw [e1]; simp, e2.2⟩
  · rintro ⟨z1, z2⟩ s' ⟨hz, rfl, _⟩
    simp only at hz
    subst hz
    exact wpAny_pure q
def CP (P : Program) (w : World) (d : PyData) : Prop := ∀ (A : Around) (E : Value → Shared → Prop) (s : Shared) (n : Nat) (v : Value) (Q : Bool → Shared → Prop), dep d ≤ n → isAt s.heap d v → Q false s → wpAny (model P w) A (ofAClassStatement n v) Q E s
mutual
theorem cls_at : ∀ (d : PyData), CP P w d
  | .int i => fun A E s n v Q hn hx q => by
    obtain ⟨t, rfl⟩ := hx
    have e : ofAClassStatement n (.int i t) = pure false := by cases n <;> rfl
    rw [e]
    exact wpAny_pure q
  | .str i => fun A E s n v Q hn hx q => by
    obtain ⟨t, rfl⟩ := hx
    have e : ofAClassStatement n (.str i t) = pure false := by cases n <;> rfl
    rw [e]
    exact wpAny_pure q
  | .tuple ds => fun A E s n v Q hn hx q => by
    have e1 : dep (.tuple ds) = deps ds + 1 := rfl
    have l := cls_all ds
    cases n with
    | zero => omega
    | succ n => exact cls_row n ds (fun d hd v Q hx q => l d hd A E s n v Q (by have := dep_mem hd; omega) hx q) v Q hx q
  | .none => fun _ _ _ _ _ _ _ hx _ => hx.elim
  | .bool _ => fun _ _ _ _ _ _ _ hx _ => hx.elim
  | .list _ => fun _ _ _ _ _ _ _ hx _ => hx.elim
  | .dict _ => fun _ _ _ _ _ _ _ hx _ => hx.elim
theorem cls_all : ∀ (ds : List PyData), ∀ d ∈ ds, CP P w d
  | [] => fun d hd => by simp at hd
  | e :: es => fun d hd => by
    have h1 := cls_at e
    have h2 := cls_all es
    rcases List.mem_cons.mp hd with z | z
    · rw [z]; exact h1
    · exact h2 d z
end
theorem hbv_row {A : Around} {E : Value → Shared → Prop} {s : Shared} (n : Nat) (ds : List PyData) (ih : ∀ d ∈ ds, ∀ (v : Value) (Q : Bool → Shared → Prop), isAt s.heap d v → (∀ b, Q b s) → wpAny (model P w) A (hashByValue n v) Q E s)
    (v : Value) (Q : Bool → Shared → Prop) (hx : isAt s.heap (.tuple ds) v) (q : ∀ b, Q b s) : wpAny (model P w) A (hashByValue (n + 1) v) Q E s := by
  obtain ⟨c, rfl, oc, its, m, h1, h2, h3, h4⟩ := hx
  have ty : s.TypeIs (.ref c) "tuple" := ⟨oc, h1, h2⟩
  unfold hashByValue
  refine wpAny_bind (wpAny_specialOf ty F.slot_tuple_hash.lookup ?_)
  show wpAny _ _ (seqItems? (.ref c) >>= _) _ _ s
  refine wpAny_bind (wpAny_seqItems h1 h3 ?_)
  refine wpAny_bind ?_
  show wpAny _ _ (forIn its _ _) _ _ s
  rw [← Array.forIn_toList]
  refine wpAny_forIn_list _ (fun rest z s' => z.1 = none ∧ s' = s ∧ ∃ d1 d2, ds = d1 ++ d2 ∧ isAts s.heap d2 rest) _ ?_ ?_ _ _ ⟨rfl, rfl, [], ds, rfl, h4⟩
  · rintro u rest z s' ⟨hz, rfl, d1, d2, e1, e2⟩
    cases d2 with
    | nil => exact e2.elim
    | cons d d2 =>
      refine wpAny_bind (ih d (by rw [e1]; simp) u _ e2.1 fun b => ?_)
      cases b with
      | true =>
        simp only [Bool.not_true, Bool.false_eq_true, if_false]
        exact wpAny_pure ⟨rfl, rfl, d1 ++ [d], d2, by rw [e1]; simp, e2.2⟩
      | false =>
        simp only [Bool.not_false, if_true]
        exact wpAny_pure (wpAny_pure (q false))
  · rintro ⟨z1, z2⟩ s' ⟨hz, rfl, _⟩
    simp only at hz
    subst hz
    exact wpAny_pure (q true)
def BP (P : Program) (w : World) (d : PyData) : Prop := ∀ (A : Around) (E : Value → Shared → Prop) (s : Shared) (n : Nat) (v : Value) (Q : Bool → Shared → Prop), isAt s.heap d v → (∀ b, Q b s) → wpAny (model P w) A (hashByValue n v) Q E s
mutual
theorem hbv_at : ∀ (d : PyData), BP P w d
  | .int i => fun A E s n v Q hx q => by
    obtain ⟨t, rfl⟩ := hx
    have e : hashByValue n (.int i t) = pure true := by cases n <;> rfl
    rw [e]
    exact wpAny_pure (q true)
  | .str i => fun A E s n v Q hx q => by
    obtain ⟨t, rfl⟩ := hx
    have e : hashByValue n (.str i t) = pure false := by cases n <;> rfl
    rw [e]
    exact wpAny_pure (q false)
  | .tuple ds => fun A E s n v Q hx q => by
    have l := hbv_all ds
    cases n with
    | zero =>
      obtain ⟨c, rfl, _⟩ := hx
      exact wpAny_pure (q false)
    | succ n => exact hbv_row n ds (fun d hd v Q hx q => l d hd A E s n v Q hx q) v Q hx q
  | .none => fun _ _ _ _ _ _ hx _ => hx.elim
  | .bool _ => fun _ _ _ _ _ _ hx _ => hx.elim
  | .list _ => fun _ _ _ _ _ _ hx _ => hx.elim
  | .dict _ => fun _ _ _ _ _ _ hx _ => hx.elim
theorem hbv_all : ∀ (ds : List PyData), ∀ d ∈ ds, BP P w d
  | [] => fun d hd => by simp at hd
  | e :: es => fun d hd => by
    have h1 := hbv_at e
    have h2 := hbv_all es
    rcases List.mem_cons.mp hd with z | z
    · rw [z]; exact h1
    · exact h2 d z
end
/-- a key of a set, as it stands -/
def KH (h : Heap) (a : Addr) (d : PyData) : Prop := isAt h d (.ref a) ∧ dep d ≤ 8
theorem KH.one {h : Heap} {a : Addr} {d e : PyData} (x : KH h a d) (y : KH h a e) : d = e := isAt_inj x.1 y.1
theorem KH.old {h h' : Heap} {a : Addr} {d : PyData} (x : KH h a d) (k : ∀ c u, h.get? c = some u → h'.get? c = some u) : KH h' a d := ⟨isAt_keep (fun c o _ _ e _ => k c o e) x.1, x.2⟩
theorem KH.but {h h' : Heap} {a c : Addr} {d : PyData} {o : Obj} {es : Array (Int × Value)} {ep : Nat} {t : SetTable} (x : KH h a d) (ho : h.get? c = some o) (hd : o.data = .set es ep t) (sb : Heap.SameBut c h h') : KH h' a d :=
  ⟨isAt_keep (fun b u its n e1 e2 => by
    by_cases eb : b = c
    · subst eb
      rw [ho] at e1
      cases e1
      rw [hd] at e2
      cases e2
    · exact (sb.2 b eb).trans e1) x.1, x.2⟩
theorem seen_no {A : Around} {E : Value → Shared → Prop} {s : Shared} {b : Addr} {d : PyData} {Q : Bool → Shared → Prop} (x : KH s.heap b d) {ys : List Value} (hy : ∀ y ∈ ys, ∃ e c, y = .ref c ∧ KH s.heap c e) (q : Q false s) :
    wpAny (model P w) A (searchCouldBeSeen (.ref b) ys) Q E s := by
  unfold searchCouldBeSeen
  refine wpAny_bind ?_
  refine wpAny_forIn_list _ (fun rest z s' => z.1 = none ∧ s' = s ∧ ∀ y ∈ rest, ∃ e c, y = Value.ref c ∧ KH s.heap c e) _ ?_ ?_ _ _ ⟨rfl, rfl, hy⟩
  · rintro u rest z s' ⟨hz, rfl, all⟩
    obtain ⟨e, c, rfl, hc⟩ := all u List.mem_cons_self
    have more : ∀ y ∈ rest, ∃ e c, y = Value.ref c ∧ KH s'.heap c e := fun y m => all y (List.mem_cons_of_mem _ m)
    dsimp only
    by_cases hv : (b == c || (carriedByValue (.ref b) && carriedByValue (.ref c))) = true
    · refine wp_if_pos hv ?_
      exact wpAny_pure ⟨rfl, rfl, more⟩
    · refine wp_if_neg hv ?_
      refine wpAny_bind (quiet_at d A _ _ 8 _ _ x.2 x.1 ?_)
      simp only [Bool.not_true, Bool.false_eq_true, if_false]
      refine wpAny_bind (quiet_at e A _ _ 8 _ _ hc.2 hc.1 ?_)
      simp only [Bool.not_true, Bool.false_eq_true, if_false]
      refine wpAny_bind (cls_at d A _ _ 8 _ _ x.2 x.1 ?_)
      simp only [Bool.false_eq_true, if_false]
      refine wpAny_bind (cls_at e A _ _ 8 _ _ hc.2 hc.1 ?_)
      simp only [Bool.false_eq_true, if_false]
      exact wpAny_pure ⟨rfl, rfl, more⟩
  · rintro ⟨z1, z2⟩ s' ⟨hz, rfl, _⟩
    simp only at hz
    subst hz
    exact wpAny_pure q

/-! ### the set -/
abbrev SEn := Addr × PyData
def rowsD (w : World) (L : List SEn) : List (Int × Value) := L.map fun p => (hashD w p.2, Value.ref p.1)
def hsD (w : World) (L : List SEn) : List Int := L.map fun p => hashD w p.2
structure SR (w : World) (h : Heap) (a : Addr) (L : List SEn) (es : Array (Int × Value)) (ep : Nat) (t : SetTable) : Prop where
  ob : ∃ o, h.get? a = some o ∧ o.ExactSet ∧ o.data = .set es ep t
  rows : es.toList = rowsD w L
  tab : TabOk t (hsD w L)
  nd : (L.map (·.2)).Nodup
  keys : ∀ p ∈ L, KH h p.1 p.2
  led : w.params.followText "set-order" = true ∨ t.led = true
  room : L.length * 5 < t.mask * 3
  few : L.length < 64
section
variable {A : Around} {E : Value → Shared → Prop} {s : Shared} {a : Addr} {L : List SEn} {es : Array (Int × Value)} {ep : Nat} {t : SetTable}
theorem rowsD_len {es : Array (Int × Value)} {L : List SEn} (h : es.toList = rowsD w L) : es.size = L.length := by
  have := congrArg List.length h
  simpa [rowsD] using this
theorem hsD_len : (hsD w L).length = L.length := by simp [hsD]
theorem SR.fit (R : SR w s.heap a L es ep t) : t.fits es.size = true := by
  have h1 := R.tab.sz
  rw [hsD_len] at h1
  have h2 := rowsD_len R.rows
  have h3 := R.room
  unfold SetTable.fits SetTable.fill
  rw [R.tab.dm]
  simp
  omega
theorem SR.at (R : SR w s.heap a L es ep t) {i : Nat} {p : SEn} (h : L[i]? = some p) : es[i]? = some (hashD w p.2, Value.ref p.1) := by
  rw [← Array.getElem?_toList, R.rows]
  simp [rowsD, h]
theorem SR.stays (R : SR w s.heap a L es ep t) : ¬ t.gaveWay = true := by
  unfold SetTable.gaveWay
  rw [mask_odd R.tab.mok]
  decide
/-- the c-th look of the search for a hash -/
abbrev lk (t : SetTable) (h : Int) (c : Nat) : SetTable.Probe := nth t.mask (runAt t.mask (SetTable.bits h % (t.mask + 1)) (SetTable.bits h)) c
theorem lk_add (t : SetTable) (h : Int) (c d : Nat) : nth t.mask (lk t h c) d = lk t h (c + d) := (nth_add t.mask c _ d).symm
theorem lk_dum (t : SetTable) (h : Int) : ∀ c, (lk t h c).dummy = none := fun c => by
  have all : ∀ (n : Nat) (p : SetTable.Probe), p.dummy = none → (nth t.mask p n).dummy = none := fun n => by
    induction n with
    | zero => exact fun p e => e
    | succ n ih => exact fun p e => ih _ (by unfold adv; split <;> exact e)
  exact all c _ rfl
theorem srch (R : SR w s.heap a L es ep t) {x : Addr} {k : PyData} (hx : KH s.heap x k) (hu : A.units + 10 < cLine) {K : Nat} (kf : K < 10 * SetTable.turns t.mask)
    (fr : way t.mask (hashD w k) K ∉ t.place.toList) (ta : ∀ c, c < K → way t.mask (hashD w k) c ∈ t.place.toList) {Q : SetFound → Shared → Prop} (yes : k ∈ L.map (·.2) → Q (.there none) s) (no : k ∉ L.map (·.2) → Q (.free (way t.mask (hashD w k) K) false) s) :
    ∀ (f c : Nat) (st : Option SetTable.Probe), st.getD (t.probeStart (hashD w k)) = lk t (hashD w k) c → c ≤ K → K - c < f →
      (∀ (i : Nat) (p : SEn), L[i]? = some p → p.2 = k → ∃ z, c ≤ z ∧ z < K ∧ t.place.toList[i]? = some (way t.mask (hashD w k) z)) →
      wpAny (model P w) A (setSearchFrom a (.ref x) (hashD w k) true f st) Q E s := by
  intro f
  induction f with
  | zero => intro c st _ _ h; exact absurd h (Nat.not_lt_zero _)
  | succ f ih =>
    intro c st e0 hc hf ahead
    obtain ⟨o, q1, q2, q3⟩ := R.ob
    rw [setSearchFrom_succ]
    refine wpAny_bind (wpAny_setState_of q1 q3 R.fit ?_)
    dsimp only
    refine wp_if_neg R.stays ?_
    try refine wpAny_bind (wpAny_pure ?_)
    have wy : ∀ d, (nth t.mask (lk t (hashD w k) c) d).j = way t.mask (hashD w k) (c + d) := fun d => congrArg SetTable.Probe.j (lk_add t _ c d)
    have back : c + (K - c) = K := by omega
    have look := go_spec t R.tab.ris R.tab.dm (fun i => (es[i]?.map (·.1)).getD 0) (hashD w k) (10 * SetTable.turns t.mask) (K - c) (lk t (hashD w k) c) (lk_dum t _ c) (by omega) (fun d hd => by rw [wy]; exact ta (c + d) (by omega)) (by rw [wy, back]; exact fr)
    have hh : ∀ {i : Nat} {p : SEn}, L[i]? = some p → (es[i]?.map (·.1)).getD 0 = hashD w p.2 := fun h => by rw [R.at h]; rfl
    rcases look with ⟨d, i, hd, hi, e1, none_before, e2⟩ | ⟨none_at, e2⟩
    · -- one with this hash
      have pr : t.probe (fun i => (es[i]?.map (·.1)).getD 0) (hashD w k) (st.getD (t.probeStart (hashD w k))) = some (.candidate (way t.mask (hashD w k) (c + d)) i (lk t (hashD w k) (c + (d + 1)))) := by
        rw [e0, ← wy, ← lk_add]
        exact e2
      rw [pr]
      dsimp only
      rw [wy] at hi
      have il : i < L.length := by
        have z1 := (List.getElem?_eq_some_iff.mp hi).1
        have z2 := R.tab.sz
        rw [hsD_len] at z2
        rw [Array.length_toList] at z1
        omega
      obtain ⟨p, hp⟩ : ∃ p, L[i]? = some p := ⟨_, List.getElem?_eq_getElem il⟩
      have pm := List.mem_of_getElem? hp
      have pk := R.keys p pm
      have go : wpAny (model P w) A (searchRest a (.ref x) (hashD w k) true f es t (way t.mask (hashD w k) (c + d)) i (lk t (hashD w k) (c + (d + 1)))) Q E s := by
        unfold searchRest
        rw [R.at hp]
        dsimp only
        refine wpAny_bind (wpAny_holding (eq_at p.2 A s k _ _ _ E (by have := pk.2; omega) pk.1 hx.1 ?_))
        refine wpAny_bind (wpAny_setState_of q1 q3 R.fit ?_)
        dsimp only
        by_cases hk : p.2 = k
        · refine wp_if_pos (by simp [hk]) (wpAny_pure (yes ?_))
          exact List.mem_map.mpr ⟨p, pm, hk⟩
        · refine wp_if_neg (by simp [hk]) ?_
          try refine wpAny_bind (wpAny_pure ?_)
          rw [sameMem]
          dsimp only
          have sl := slot_live R.tab.ris hi
          simp only [if_true, sl, R.at hp]
          refine wpAny_bind (wpAny_isSame_ref_self (wpAny_bind (wpAny_pure ?_)))
          simp only [if_true]
          refine wp_if_neg (by simp [hk]) ?_
          refine ih (c + (d + 1)) _ rfl (by omega) (by omega) fun i0 p0 h0 k0 => ?_
          obtain ⟨z, z1, z2, z3⟩ := ahead i0 p0 h0 k0
          refine ⟨z, ?_, z2, z3⟩
          rcases Nat.lt_trichotomy z (c + d) with y | y | y
          · exfalso
            refine none_before (z - c) i0 (by omega) (by rw [wy, show c + (z - c) = z by omega]; exact z3) ?_
            rw [hh h0, k0]
          · exfalso
            subst y
            have s2 := slot_live R.tab.ris z3
            rw [sl] at s2
            injection s2 with s2
            subst s2
            rw [hp] at h0
            cases h0
            exact hk k0
          · omega
      by_cases hl : t.led = true
      · refine wp_if_neg (by simp [hl]) ?_
        try refine wpAny_bind (wpAny_pure ?_)
        exact go
      · refine wp_if_pos (by simp [hl]) ?_
        refine wpAny_bind (seen_no hx (fun y hy => ?_) ?_)
        · obtain ⟨e, he, ee⟩ := List.mem_map.mp hy
          have he2 : e ∈ es.toList := by
            have : e ∈ es ∧ e.1 = hashD w k := by simpa using he
            simpa using this.1
          rw [R.rows] at he2
          obtain ⟨p2, m2, rfl⟩ := List.mem_map.mp he2
          exact ⟨p2.2, p2.1, ee.symm, R.keys p2 m2⟩
        · refine wp_if_neg (by decide) ?_
          try refine wpAny_bind (wpAny_pure ?_)
          exact go
    · -- an empty place
      have pr : t.probe (fun i => (es[i]?.map (·.1)).getD 0) (hashD w k) (st.getD (t.probeStart (hashD w k))) = some (.empty (way t.mask (hashD w k) K) none) := by
        have e3 := wy (K - c)
        rw [back] at e3
        rw [e0, ← e3]
        exact e2
      rw [pr]
      dsimp only
      refine wpAny_pure (no fun hm => ?_)
      obtain ⟨p0, m0, k0⟩ := List.mem_map.mp hm
      obtain ⟨i0, b0, e4⟩ := List.getElem_of_mem m0
      have h0 : L[i0]? = some p0 := by rw [List.getElem?_eq_getElem b0, e4]
      obtain ⟨z, z1, z2, z3⟩ := ahead i0 p0 h0 k0
      refine none_at (z - c) i0 (by omega) (by rw [wy, show c + (z - c) = z by omega]; exact z3) ?_
      rw [hh h0, k0]
/-- .. from its start -/
theorem srch0 (R : SR w s.heap a L es ep t) {x : Addr} {k : PyData} (hx : KH s.heap x k) (hu : A.units + 10 < cLine) {Q : SetFound → Shared → Prop} (yes : k ∈ L.map (·.2) → Q (.there none) s)
    (no : ∀ K, k ∉ L.map (·.2) → way t.mask (hashD w k) K ∉ t.place.toList → (∀ c, c < K → way t.mask (hashD w k) c ∈ t.place.toList) → Q (.free (way t.mask (hashD w k) K) false) s) :
    wpAny (model P w) A (setSearch a (.ref x) (hashD w k) true) Q E s := by
  have r := R.room
  obtain ⟨K, kf, fr, ta⟩ := R.tab.first (by rw [hsD_len]; omega) (hashD w k)
  have few : K < 100000 := by
    have : 10 * SetTable.turns t.mask ≤ 1420 := by
      unfold SetTable.turns
      rcases R.tab.mok with e | e | e <;> omega
    omega
  unfold setSearch
  refine srch R hx hu kf fr ta yes (fun z => no K z fr ta) 100000 0 none rfl (Nat.zero_le _) (by omega) fun i p hp hk => ?_
  have hi : (hsD w L)[i]? = some (hashD w k) := by unfold hsD; rw [List.getElem?_map, hp, ← hk]; rfl
  have il : i < t.place.toList.length := by
    have z1 := (List.getElem?_eq_some_iff.mp hi).1
    have z2 := R.tab.sz
    rw [Array.length_toList]
    omega
  have hj := List.getElem?_eq_getElem il
  obtain ⟨z, z1, e⟩ := R.tab.before fr hi hj
  exact ⟨z, Nat.zero_le _, z1, by rw [hj, e]⟩
/-! one more, laid anew where it grows -/
theorem fm_range {α : Type} : ∀ (r : List α), (List.range r.length).filterMap (fun m => r[m]?) = r
  | [] => rfl
  | a :: r => by
    rw [List.length_cons, List.range_succ_eq_map, List.filterMap_cons]
    simp only [List.getElem?_cons_zero, List.filterMap_map]
    exact congrArg (a :: ·) (fm_range r)
theorem ordered {es : Array (Int × Value)} {L : List SEn} (hr : es.toList = rowsD w L) {od : Array Nat} (hp : od.toList.Perm (List.range L.length)) :
    ∃ M : List SEn, (od.filterMap (es[·]?)).toList = rowsD w M ∧ M.Perm L ∧ hsD w M = od.toList.map fun i => (es.map (·.1)).getD i 0 := by
  have one : ∀ i : Nat, es[i]? = (L[i]?).map fun p : SEn => (hashD w p.2, Value.ref p.1) := fun i => by
    rw [← Array.getElem?_toList, hr]
    simp [rowsD]
  refine ⟨od.toList.filterMap (fun i => L[i]?), ?_, ?_, ?_⟩
  · rw [Array.toList_filterMap]
    unfold rowsD
    rw [List.map_filterMap]
    exact congrArg (fun f => List.filterMap f od.toList) (funext one)
  · have := hp.filterMap (fun i => L[i]?)
    rwa [fm_range] at this
  · have each : ∀ l : List Nat, (∀ i ∈ l, i < L.length) → hsD w (l.filterMap fun i => L[i]?) = l.map fun i => (es.map (·.1)).getD i 0 := by
      intro l
      induction l with
      | nil => intro _; rfl
      | cons i l ih =>
        intro hl
        have hi := hl i List.mem_cons_self
        have e0 := ih fun j hj => hl j (List.mem_cons_of_mem _ hj)
        rw [List.filterMap_cons, List.getElem?_eq_getElem hi, List.map_cons, ← e0]
        have e1 : (es.map (·.1))[i]? = some (hashD w L[i].2) := by
          rw [Array.getElem?_map, one, List.getElem?_eq_getElem hi]
          rfl
        simp only [hsD, List.map_cons, Array.getD_eq_getD_getElem?, e1, Option.getD_some]
    exact each _ fun i hi => List.mem_range.mp (hp.mem_iff.mp hi)
theorem anew {o : Obj} (q1 : s.heap.get? a = some o) (q2 : o.ExactSet) (q3 : o.data = .set es ep t) (hr : es.toList = rowsD w L) (z1 : t.place.size = es.size) (z2 : t.dummies = #[]) (z3 : es.size ≤ t.mask) (nd : (L.map (·.2)).Nodup) (ks : ∀ p ∈ L, KH s.heap p.1 p.2)
    (ld : w.params.followText "set-order" = true ∨ t.led = true) (few : L.length < 64) {wanted M : Nat} (w1 : SetTable.sizeAbove wanted - 1 = M) (w2 : MaskOk M) (w3 : SetTable.sizeAbove wanted ≤ 128) (w4 : L.length * 5 < M * 3) {Q : Unit → Shared → Prop}
    (k : ∀ h' L' es' ep' t', Heap.SameBut a s.heap h' → SR w h' a L' es' ep' t' → L'.Perm L → Q () { s with heap := h' }) : wpAny (model P w) A (setRelay a wanted) Q E s := by
  have ln := rowsD_len hr
  have ft : t.fits es.size = true := by
    unfold SetTable.fits SetTable.fill
    rw [z2]
    simp
    omega
  obtain ⟨t', od, r1, r2, r3, r4, r5, r6, r7⟩ := relaid_ok t (hs := es.map (·.1)) (wanted := wanted) w1 w2 (by rw [Array.size_map, ln]; omega)
  rw [Array.size_map, ln] at r2
  obtain ⟨L', m1, m2, m3⟩ := ordered hr r2
  rw [← m3] at r3
  have l2 := rowsD_len m1
  have l3 := m2.length_eq
  rw [setRelay_eq]
  refine wpAny_bind (wpAny_setState_of q1 q3 ft ?_)
  dsimp only
  refine wp_if_neg (by rw [sizeLine_eq]; omega) ?_
  try refine wpAny_bind (wpAny_pure ?_)
  rw [r1]
  dsimp only
  refine wpAny_bind ?_
  refine wp_if_neg (by rw [l2, l3, ln]; simp) ?_
  try refine wpAny_bind (wpAny_pure ?_)
  refine wpAny_pure ?_
  dsimp only
  refine wpAny_storeSet_of q1 q3 ?_ (by rw [l2, l3, sizeLine_eq]; omega)
  have sb : Heap.SameBut a s.heap (s.heap.update a (Obj.putSet (od.filterMap (es[·]?)) t')) := Heap.SameBut.update ..
  refine k _ L' _ (ep + 1) t' sb ⟨⟨_, store_at q1 q3, ⟨q2.1, q2.2.1, q2.2.2⟩, rfl⟩, m1, r3, (m2.map _).nodup_iff.mpr nd, fun p hp => (ks p (m2.mem_iff.mp hp)).but q1 q3 sb, by rw [r5]; exact ld, by rw [l3, r4]; exact w4, by rw [l3]; exact few⟩ m2
theorem addD (R : SR w s.heap a L es ep t) {x : Addr} {k : PyData} (hx : KH s.heap x k) (hu : A.units + 10 < cLine) (few : L.length + 1 < 64) {Q : Bool → Shared → Prop}
    (fin : ∀ b h' L' es' ep' t', Heap.SameBut a s.heap h' → SR w h' a L' es' ep' t' → (k ∈ L.map (·.2) → L' = L) → (k ∉ L.map (·.2) → L'.Perm ((x, k) :: L)) → Q b { s with heap := h' }) :
    wpAny (model P w) A (setAddHashed a (.ref x) (hashD w k)) Q E s := by
  obtain ⟨o, q1, q2, q3⟩ := R.ob
  have ln := rowsD_len R.rows
  have rm := R.room
  unfold setAddHashed
  refine wpAny_holding ?_
  rw [show (100000 : Nat) = 99999 + 1 from rfl, setAddHashedIn_succ]
  refine wpAny_bind (wpAny_setState_of q1 q3 R.fit ?_)
  dsimp only
  refine wp_if_neg (by simp [byScan, Value.scannable]) ?_
  try refine wpAny_bind (wpAny_pure ?_)
  refine wpAny_bind (srch0 R hx hu (fun hm => ?_) fun K hm fr ta => ?_)
  · dsimp only
    exact wpAny_pure (fin false s.heap L es ep t (Heap.SameBut.refl a s.heap) R (fun _ => rfl) fun z => absurd hm z)
  · dsimp only
    refine wpAny_bind (wpAny_setState_of q1 q3 R.fit ?_)
    dsimp only
    obtain ⟨p1, p2, p3, p4, p5, p6, p7, p8, p9⟩ := R.tab.put fr ta
    generalize hb : SetTable.below t.place (way t.mask (hashD w k) K) = b at p1 p2 p3
    generalize hpt : t.put (way t.mask (hashD w k) K) = pt at p1 p3 p4 p5 p6 p7 p8 p9 ⊢
    obtain ⟨t1, b1⟩ := pt
    dsimp only at p1 p3 p4 p5 p6 p7 p8 p9 ⊢
    subst p1
    -- what is stored
    have h1 : (SetTable.insertAt es b1 (hashD w k, Value.ref x)).toList = rowsD w (L.take b1 ++ (x, k) :: L.drop b1) := by
      rw [SetTable.toList_insertAt, R.rows]
      simp [rowsD, List.map_take, List.map_drop]
    have h2 : hsD w (L.take b1 ++ (x, k) :: L.drop b1) = (hsD w L).take b1 ++ hashD w k :: (hsD w L).drop b1 := by
      simp [hsD, List.map_take, List.map_drop]
    rw [← h2] at p3
    have pm : (L.take b1 ++ (x, k) :: L.drop b1).Perm ((x, k) :: L) := by
      have := List.perm_middle (a := ((x, k) : SEn)) (l₁ := L.take b1) (l₂ := L.drop b1)
      rwa [List.take_append_drop] at this
    have l1 := pm.length_eq
    rw [List.length_cons] at l1
    have l2 := rowsD_len h1
    generalize SetTable.insertAt es b1 (hashD w k, Value.ref x) = es1 at h1 l2 ⊢
    generalize L.take b1 ++ (x, k) :: L.drop b1 = L1 at p3 pm h1 l1 l2
    have nd1 : (L1.map (·.2)).Nodup := (pm.map _).nodup_iff.mpr (List.nodup_cons.mpr ⟨hm, R.nd⟩)
    -- behind the question of its hash
    have rest : ∀ t2 : SetTable, (t2 = t1 ∨ t2 = { t1 with plain := false }) → wpAny (model P w) A (do
        storeSet a es1 t2
        if !false && t2.tooFull then setRelay a (SetTable.grown (es.size + 1))
        return true) Q E s := fun t2 ht => by
      have g1 : TabOk t2 (hsD w L1) := by rcases ht with rfl | rfl; exact p3; exact ⟨p3.ris, p3.dm, p3.sz, p3.mok, p3.bd, p3.reach⟩
      have g2 : t2.mask = t.mask := by rcases ht with rfl | rfl <;> exact p4
      have g3 : t2.led = t.led := by rcases ht with rfl | rfl <;> exact p5
      have g4 : t2.fill = L.length + 1 := by rw [hsD_len] at p9; rcases ht with rfl | rfl <;> exact p9
      have ld : w.params.followText "set-order" = true ∨ t2.led = true := by rw [g3]; exact R.led
      refine wpAny_bind (wpAny_storeSet_of q1 q3 ?_ (by rw [l2, sizeLine_eq]; omega))
      have sb : Heap.SameBut a s.heap (s.heap.update a (Obj.putSet es1 t2)) := Heap.SameBut.update ..
      have so := store_at (es' := es1) (t' := t2) q1 q3
      generalize s.heap.update a (Obj.putSet es1 t2) = hp at sb so ⊢
      have ks : ∀ p ∈ L1, KH hp p.1 p.2 := fun p hp' => by
        rcases List.mem_cons.mp (pm.mem_iff.mp hp') with e | m
        · rw [e]; exact hx.but q1 q3 sb
        · exact (R.keys p m).but q1 q3 sb
      by_cases tf : t2.tooFull = true
      · first
          | (refine wpAny_bind ?_; refine wp_if_pos (by simp [tf]) ?_)
          | (refine wp_if_pos (by simp [tf]) ?_; refine wpAny_bind ?_)
        have full : (L.length + 1) * 5 ≥ t2.mask * 3 := by
          have h := tf
          unfold SetTable.tooFull at h
          rw [decide_eq_true_eq, g4] at h
          exact h
        rw [ln]
        have two : (t.mask = 7 ∧ L.length = 4) ∨ (t.mask = 31 ∧ L.length = 18) := by
          rcases R.tab.mok with e | e | e
          · left; rw [g2, e] at full; rw [e] at rm; exact ⟨e, by omega⟩
          · right; rw [g2, e] at full; rw [e] at rm; exact ⟨e, by omega⟩
          · exfalso; rw [g2, e] at full; omega
        have sz := g1.sz
        rw [hsD_len] at sz
        have go : ∀ M, SetTable.sizeAbove (SetTable.grown (L.length + 1)) - 1 = M → MaskOk M → SetTable.sizeAbove (SetTable.grown (L.length + 1)) ≤ 128 → (L.length + 1) * 5 < M * 3 →
            wpAny (model P w) A (setRelay a (SetTable.grown (L.length + 1))) (fun _ s' => wpAny (model P w) A (pure true) Q E s') E { s with heap := hp } := fun M y1 y2 y3 y4 => by
          refine anew (s := { s with heap := hp }) so ⟨q2.1, q2.2.1, q2.2.2⟩ rfl h1 (by rw [sz, l2]) g1.dm (by rw [l2, g2]; omega) nd1 ks ld (by omega) y1 y2 y3 (by rw [l1]; exact y4) fun h2 L2 es2 ep2 t2 sb2 R2 pm2 => ?_
          exact wpAny_pure (fin true h2 L2 es2 ep2 t2 (sb.trans sb2) R2 (fun z => absurd z hm) fun _ => pm2.trans pm)
        rcases two with ⟨_, e2⟩ | ⟨_, e2⟩
        · exact go 31 (by rw [e2, size_20]) (.inr (.inl rfl)) (by rw [e2, size_20]; decide) (by omega)
        · exact go 127 (by rw [e2, size_76]) (.inr (.inr rfl)) (by rw [e2, size_76]; decide) (by omega)
      · first
          | refine wp_if_neg (by simp [tf]) ?_
          | (refine wpAny_bind ?_; refine wp_if_neg (by simp [tf]) ?_; refine wpAny_pure ?_)
        refine wpAny_pure (fin true hp L1 es1 (ep + 1) t2 sb ⟨⟨_, so, ⟨q2.1, q2.2.1, q2.2.2⟩, rfl⟩, h1, g1, nd1, ks, ld, ?_, by omega⟩ (fun z => absurd z hm) fun _ => pm)
        have h := tf
        unfold SetTable.tooFull at h
        rw [decide_eq_true_eq, g4] at h
        omega
    by_cases pl : t1.plain = true
    · first
        | (refine wpAny_bind ?_; refine wp_if_pos pl ?_; refine hbv_at k A _ _ 8 _ _ hx.1 fun v => ?_)
        | refine wp_if_pos pl (wpAny_bind (hbv_at k A _ _ 8 _ _ hx.1 fun v => ?_))
      cases v with
      | true => simp only [if_true]; exact rest t1 (.inl rfl)
      | false => simp only [Bool.false_eq_true, if_false]; exact rest _ (.inr rfl)
    · first
        | (refine wpAny_bind ?_; refine wp_if_neg pl ?_; refine wpAny_pure ?_; simp only [if_true]; exact rest t1 (.inl rfl))
        | (refine wp_if_neg pl ?_; refine wpAny_bind (wpAny_pure ?_); simp only [if_true]; exact rest t1 (.inl rfl))
        | (refine wp_if_neg pl ?_; simp only [if_true]; exact rest t1 (.inl rfl))
end
end
end Z

namespace Z
open PySem L2 PyProof.Rows

/-! ### set(xs), xs a list of tuples -/
/-- what the first i give -/
def Gt (ks : List SEn) (i : Nat) (L : List SEn) : Prop := (∀ p ∈ L, p ∈ ks.take i) ∧ (∀ p ∈ ks.take i, p.2 ∈ L.map (·.2)) ∧ L.length ≤ i
theorem tk1 {α : Type} {l : List α} {i : Nat} {x : α} (h : l[i]? = some x) : l.take (i + 1) = l.take i ++ [x] := by rw [List.take_add_one, h]; rfl
theorem Gt.there {ks L : List SEn} {i : Nat} {x : SEn} (g : Gt ks i L) (h : ks[i]? = some x) (m : x.2 ∈ L.map (·.2)) : Gt ks (i + 1) L := by
  obtain ⟨g1, g2, g3⟩ := g
  unfold Gt
  rw [tk1 h]
  refine ⟨fun p hp => List.mem_append_left _ (g1 p hp), fun p hp => ?_, by omega⟩
  rcases List.mem_append.mp hp with z | z
  · exact g2 p z
  · have : p = x := by simpa using z
    rw [this]; exact m
theorem Gt.one {ks L L' : List SEn} {i : Nat} {x : SEn} (g : Gt ks i L) (h : ks[i]? = some x) (pm : L'.Perm (x :: L)) : Gt ks (i + 1) L' := by
  obtain ⟨g1, g2, g3⟩ := g
  unfold Gt
  rw [tk1 h]
  refine ⟨fun p hp => ?_, fun p hp => ?_, by rw [pm.length_eq, List.length_cons]; omega⟩
  · rcases List.mem_cons.mp (pm.mem_iff.mp hp) with e | z
    · exact List.mem_append_right _ (by rw [e]; simp)
    · exact List.mem_append_left _ (g1 p z)
  · refine (pm.map (·.2)).mem_iff.mpr ?_
    rw [List.map_cons]
    rcases List.mem_append.mp hp with z | z
    · exact List.mem_cons_of_mem _ (g2 p z)
    · have : p = x := by simpa using z
      rw [this]; exact List.mem_cons_self
def set0 (w : World) : Obj := { cls := .type "set", dict := none, data := .set #[] 0 (.fresh 0 0 (!w.params.followText "set-order")) }
section
variable {P : Program} {w : World} {A : Around} {E : Value → Shared → Prop} {s : Shared}
theorem SR.kept {h h' : Heap} {a : Addr} {L : List SEn} {es : Array (Int × Value)} {ep : Nat} {t : SetTable} (R : SR w h a L es ep t) (ka : ∀ o, h.get? a = some o → h'.get? a = some o) (kk : ∀ p ∈ L, KH h' p.1 p.2) : SR w h' a L es ep t := by
  obtain ⟨o, e, r⟩ := R.ob
  exact ⟨⟨o, ka o e, r⟩, R.rows, R.tab, R.nd, kk, R.led, R.room, R.few⟩
theorem sr_new {h : Heap} {a : Addr} (ho : h.get? a = some (set0 w)) : SR w h a [] #[] 0 (.fresh 0 0 (!w.params.followText "set-order")) where
  ob := ⟨_, ho, ⟨rfl, rfl, rfl⟩, rfl⟩
  rows := rfl
  tab := ⟨List.Pairwise.nil, rfl, rfl, .inl rfl, fun x m => (by cases m), fun i h j e => (by simp [hsD] at e)⟩
  nd := List.nodup_nil
  keys := fun p m => (by cases m)
  led := by
    show _ ∨ (!w.params.followText "set-order") = true
    cases w.params.followText "set-order" <;> simp
  room := by show 0 * 5 < 7 * 3; decide
  few := by show 0 < 64; decide
theorem upd_loop {I : Addr} {fp wr : List Addr} {G : Array GenState → Array GenState → Prop} {n : Nat} {Pv : Nat → Value → Prop} {St : Nat → Shared → Prop} {R : Result → Shared → Prop}
    (W : WalksS P w A.in1 I fp wr G n Pv St) (S : Addr) (nS : S ∉ fp) (ks : List SEn) (hn : n = ks.length) (few : ks.length < 64) (val : ∀ i v, Pv i v → ∃ p, ks[i]? = some p ∧ v = .ref p.1)
    (h0 : Heap) (kk : ∀ p ∈ ks, KH h0 p.1 p.2) (fS : h0.get? S = none) (fw : ∀ b ∈ wr, h0.get? b = none) (hu : A.in1.units + 10 < cLine)
    (fin : ∀ s' L es ep t, Moved (S :: wr) G s s' → SR w s'.heap S L es ep t → Gt ks n L → (∀ b o, h0.get? b = some o → s'.heap.get? b = some o) → R (.ok (.ret .none)) s') :
    ∀ (m i : Nat) (s1 : Shared), n - i = m → i ≤ n → (∀ s', Moved (S :: wr) G s1 s' → Moved (S :: wr) G s s') → St i s1 → (∀ b o, h0.get? b = some o → s1.heap.get? b = some o) → (∃ L es ep t, SR w s1.heap S L es ep t ∧ Gt ks i L) →
      codeAny (model P w) A (.builtin "set.update.loop" ⟨[.ref S, .ref I], []⟩) R s1 := by
  have nw : S ∉ wr := fun h => nS (W.sub _ h)
  have sub : ∀ b ∈ wr, b ∈ S :: wr := fun b hb => List.mem_cons_of_mem _ hb
  have stay : ∀ {u v : Shared}, Moved wr G u v → (∀ b o, h0.get? b = some o → u.heap.get? b = some o) → ∀ b o, h0.get? b = some o → v.heap.get? b = some o := fun hm k b o e =>
    hm.heap b o (fun hb => by rw [fw b hb] at e; cases e) (k b o e)
  intro m
  induction m with
  | zero =>
    intro i s1 em hi bk st k ⟨L, es, ep, t, R1, g⟩
    have ei : i = n := by omega
    subst ei
    refine codeAny_builtin F.entry_set_update_loop ?_
    rw [Around.under_plainId F.plain_set_update_loop _]
    show wpAny _ A.in1 (pyNext (.ref I) >>= _) _ _ s1
    refine wpAny_bind (W.done s1 _ _ st fun s' hm => ?_)
    show wpAny _ A.in1 (ret Value.none) _ _ s'
    have k' := stay hm k
    have inn : ∀ p ∈ L, p ∈ ks := fun p hp => List.mem_of_mem_take (g.1 p hp)
    exact wpAny_pure (fin s' L es ep t (bk _ (hm.mono sub)) (R1.kept (fun o e => hm.heap S o nw e) fun p hp => (kk p (inn p hp)).old k') g k')
  | succ m ih =>
    intro i s1 em hi bk st k ⟨L, es, ep, t, R1, g⟩
    have lt : i < n := by omega
    refine codeAny_builtin F.entry_set_update_loop ?_
    rw [Around.under_plainId F.plain_set_update_loop _]
    show wpAny _ A.in1 (pyNext (.ref I) >>= _) _ _ s1
    refine wpAny_bind (W.item i s1 _ _ lt st fun v s2 hP st2 hm => ?_)
    obtain ⟨p, hp, rfl⟩ := val i v hP
    have k2 := stay hm k
    have inn : ∀ p ∈ L, p ∈ ks := fun p hp => List.mem_of_mem_take (g.1 p hp)
    have R2 : SR w s2.heap S L es ep t := R1.kept (fun o e => hm.heap S o nw e) fun p hp => (kk p (inn p hp)).old k2
    have hx : KH s2.heap p.1 p.2 := (kk p (List.mem_of_getElem? hp)).old k2
    show wpAny _ A.in1 (holding [Value.ref p.1] (setAdd S (.ref p.1)) >>= _) _ _ s2
    refine wpAny_bind (wpAny_holding ?_)
    unfold setAdd
    refine wpAny_holding ?_
    refine wpAny_bind (hash_at _ p.2 A.in1 s2 _ _ (by have := hx.2; omega) hx.1 ?_)
    refine addD (s := { s2 with toks := s2.toks + drw p.2 }) R2 hx hu (by have := g.2.2; omega) fun b h3 L3 es3 ep3 t3 sb R3 c1 c2 => ?_
    have g3 : Gt ks (i + 1) L3 := by
      rcases Classical.em (p.2 ∈ L.map (·.2)) with c | c
      · rw [c1 c]; exact g.there hp c
      · exact g.one hp (c2 c)
    have k3 : ∀ b o, h0.get? b = some o → h3.get? b = some o := fun b o e => (sb.2 b (fun z => by rw [z, fS] at e; cases e)).trans (k2 b o e)
    have mv : Moved (S :: wr) G s1 { s2 with heap := h3, toks := s2.toks + drw p.2 } := (hm.mono sub).then_heap (Nat.le_add_right _ _) fun b o hb e => by
      rw [sb.2 b (fun z : b = S => hb (by rw [z]; exact List.mem_cons_self))]; exact e
    refine wpAny_pure ⟨plainId_quiet F.plain_set_update_loop _, ih (i + 1) _ (by omega) lt (fun s' q => bk s' (Moved.trans W.gtrans mv q)) (W.frame _ s2 _ _ st2 (Nat.le_add_right _ _) fun b hb o e => ?_) k3 ⟨L3, es3, ep3, t3, R3, g3⟩⟩
    rw [sb.2 b (fun z : b = S => nS (by rw [← z]; exact hb))]; exact e
theorem call_setD {l : Addr} {its : Array Value} (ks : List SEn) {Q : Value → Shared → Prop} (hh : A.handled = none) (hl : s.heap.IsList l its) (hit : its.toList = ks.map fun p => Value.ref p.1)
    (kk : ∀ p ∈ ks, KH s.heap p.1 p.2) (few : ks.length < 64) (hu : A.units + 20 < cLine)
    (fin : ∀ (h' : Heap) (tk : Nat) L es ep t, SR w h' s.heap.objs.size L es ep t → Gt ks ks.length L → (∀ b o, s.heap.get? b = some o → h'.get? b = some o) → Q (.ref s.heap.objs.size) { s with heap := h', toks := tk }) :
    wpAny (model P w) A (call (.type "set") [.ref l]) Q E s := by
  have sz : its.size = ks.length := by
    have := congrArg List.length hit
    simpa using this
  obtain ⟨c, tl, hmro⟩ := F.called_set.mro
  have hmade := F.called_set.made
  have hsub := F.called_set.sub
  refine wpAny_call (codeAny_of_tree ?_)
  show wpAny _ _ (callAny (.type "set") _) _ _ _
  refine wpAny_pure ⟨Code.quiet_builtin _ (by decide +kernel), codeAny_builtin F.entry_type_call ?_⟩
  rw [Around.under_plain (weight_type_call_type "set" [.ref l] []) rfl]
  have n1 := F.called_set.notType
  have n2 := F.called_set.canCreate
  have n3 := F.typeCall_set_1 (.ref l)
  repeat (any_goals (first | assumption | wp_step))
  refine codeAny_mono (code_set_led1 (.ref l) (E := E) (Q₁ := fun ob s1 => ob = .ref s.heap.objs.size ∧ s1 = { s with heap := s.heap.push (set0 w) }) ⟨rfl, rfl⟩) fun r s1 hr => ?_
  cases r with
  | error e => exact hr
  | ok fl =>
    cases fl with
    | ret ob =>
      obtain ⟨rfl, rfl⟩ := hr
      have at0 : (s.heap.push (set0 w)).get? s.heap.objs.size = some (set0 w) := Heap.get?_push_size _ rfl
      have ty : Shared.TypeIs { s with heap := s.heap.push (set0 w) } (.ref s.heap.objs.size) "set" := ⟨_, at0, rfl⟩
      have i1 := F.called_set.init.lookup
      have i2 := F.called_set.init.bind (.ref s.heap.objs.size)
      repeat (any_goals (first | assumption | wp_step))
      refine codeAny_mono (codeAny_call_builtin (R := wants (fun r s2 => r = .none ∧ ∃ h' tk L es ep t, s2 = { s with heap := h', toks := tk } ∧ SR w h' s.heap.objs.size L es ep t ∧ Gt ks ks.length L ∧ ∀ b o, s.heap.get? b = some o → h'.get? b = some o) E)
        F.called_set.init.plain F.entry_set_init (check_set_init_1 ty ?_)) fun r2 s2 hr2 => ?_
      · obtain ⟨ol, o1, o2, nl, o3⟩ := hl
        obtain ⟨kc, kd, kt, ksl⟩ := ol
        simp only at o2 o3
        subst o2 o3
        have o4 : (s.heap.push (set0 w)).get? l = some { cls := .type "list", dict := kd, data := .seq its nl, slots := ksl } := Heap.get?_push_of_some _ o1
        have f1 := F.sub_list_set
        have f2 := F.sub_list_frozenset
        have f3 : (Value.type "list" == Value.type "dict") = false := by decide
        have l1 : (s.heap.push (set0 w)).IsList l its := ⟨_, o4, rfl, nl, rfl⟩
        unfold Builtin.«set.__init__» noKeywords Builtin.Frozenset.updateFrom
        generalize hPI : pyIter = PI
        wp_walk
        subst hPI
        refine wpAny_pyIter_list l1 ?_
        refine wpAny_bind (wpAny_runValue ?_)
        have ls : l < s.heap.objs.size := Heap.lt_size o1
        have h3 : A.in1.in1.in1.handled = none := by simp [hh]
        have s1 : (s.heap.push (set0 w)).objs.size = s.heap.objs.size + 1 := Heap.size_push ..
        have ne1 : l ≠ (s.heap.push (set0 w)).objs.size := by rw [s1]; exact Nat.ne_of_lt (Nat.lt_succ_of_lt ls)
        have ne2 : s.heap.objs.size ∉ [(s.heap.push (set0 w)).objs.size, l] := by
          rw [s1]
          simp only [List.mem_cons, List.not_mem_nil, or_false, not_or]
          exact ⟨Nat.ne_of_lt (Nat.lt_succ_self _), Nat.ne_of_gt ls⟩
        have val : ∀ (i : Nat) (v : Value), its[i]? = some v → ∃ p, ks[i]? = some p ∧ v = .ref p.1 := fun i v hv => by
          have q : its.toList[i]? = some v := by rw [Array.getElem?_toList]; exact hv
          rw [hit, List.getElem?_map] at q
          obtain ⟨p, q1, q2⟩ := Option.map_eq_some_iff.mp q
          exact ⟨p, q1, q2.symm⟩
        have out : ∀ b, s.heap.objs.size ≤ b → s.heap.get? b = none := fun b hb => by
          cases q : s.heap.get? b with
          | none => rfl
          | some o => exact absurd (Nat.lt_of_lt_of_le (Heap.lt_size q) hb) (Nat.lt_irrefl _)
        refine upd_loop ((Walks.list h3 _ l ne1 its).toS) s.heap.objs.size ne2 ks sz few val s.heap kk (out _ (Nat.le_refl _)) (fun b hb => out b (by
          rw [List.mem_singleton.mp hb, s1]; exact Nat.le_succ _)) (by show A.units + 1 + 1 + 1 + 10 < cLine; omega) ?ff (its.size - 0) 0 _ (by omega) (Nat.zero_le _) (fun s' q => q)
          ⟨⟨_, Heap.get?_push_size _ rfl, rfl, rfl⟩, (l1.push _)⟩ (fun b o e => Heap.get?_push_of_some _ (Heap.get?_push_of_some _ e)) ?gg
        case gg => exact ⟨[], #[], 0, _, sr_new (Heap.get?_push_of_some _ at0), fun p m => (by cases m), fun p m => (by simp at m), Nat.le_refl _⟩
        case ff =>
          intro s' L es ep t hm R1 g k
          obtain ⟨h', g2, d', tk', os'⟩ := s'
          have eg : g2 = s.gens := hm.gens
          have ed : d' = s.drawn := hm.drawn
          have eo : os' = s.os := hm.os
          subst eg ed eo
          show wpAny _ _ _ _ _ _
          refine wpAny_pure ?_
          show wpAny _ _ (ret Value.none) _ _ _
          rw [sz] at g
          exact wpAny_pure ⟨rfl, h', tk', L, es, ep, t, rfl, R1, g, k⟩
      · cases r2 with
        | error e => exact hr2
        | ok fl2 =>
          cases fl2 with
          | ret r =>
            obtain ⟨rfl, h', tk, L, es, ep, t, rfl, R1, g, k⟩ := hr2
            repeat (any_goals (first | assumption | wp_step))
            exact fin _ _ _ _ _ _ R1 g k
          | _ => exact hr2.elim
    | _ => exact hr.elim
end
end Z

namespace Z
open PySem L2 PyProof.Rows

/-! ### sorted lists of alike data are the same if they have the same items -/
mutual
theorem tok_inj : ∀ (x y : PyData) (l m : List (Int ⊕ List Nat)), PySem.W.alike x y = true → PySem.W.keyToks x ++ l = PySem.W.keyToks y ++ m → x = y ∧ l = m
  | .none, .none, l, m, _, h => ⟨rfl, by simpa [PySem.W.keyToks] using h⟩
  | .bool a, .bool b, l, m, _, h => by
    cases a <;> cases b <;> simp [PySem.W.keyToks] at h ⊢ <;> exact h
  | .int a, .int b, l, m, _, h => by
    simp [PySem.W.keyToks] at h
    exact ⟨by rw [h.1], h.2⟩
  | .str a, .str b, l, m, _, h => by
    simp only [PySem.W.keyToks, List.singleton_append, List.cons.injEq, Sum.inr.injEq] at h
    exact ⟨by rw [PySem.W.str_of_cps h.1], h.2⟩
  | .list xs, .list ys, l, m, al, h => by
    have := toks_inj xs ys l m (by simpa [PySem.W.alike] using al) (by simpa [PySem.W.keyToks] using h)
    exact ⟨by rw [this.1], this.2⟩
  | .tuple xs, .tuple ys, l, m, al, h => by
    have := toks_inj xs ys l m (by simpa [PySem.W.alike] using al) (by simpa [PySem.W.keyToks] using h)
    exact ⟨by rw [this.1], this.2⟩
  | .none, .bool _, _, _, al, _ | .none, .int _, _, _, al, _ | .none, .str _, _, _, al, _ | .none, .list _, _, _, al, _ | .none, .tuple _, _, _, al, _ | .none, .dict _, _, _, al, _
  | .bool _, .none, _, _, al, _ | .bool _, .int _, _, _, al, _ | .bool _, .str _, _, _, al, _ | .bool _, .list _, _, _, al, _ | .bool _, .tuple _, _, _, al, _ | .bool _, .dict _, _, _, al, _
  | .int _, .none, _, _, al, _ | .int _, .bool _, _, _, al, _ | .int _, .str _, _, _, al, _ | .int _, .list _, _, _, al, _ | .int _, .tuple _, _, _, al, _ | .int _, .dict _, _, _, al, _
  | .str _, .none, _, _, al, _ | .str _, .bool _, _, _, al, _ | .str _, .int _, _, _, al, _ | .str _, .list _, _, _, al, _ | .str _, .tuple _, _, _, al, _ | .str _, .dict _, _, _, al, _
  | .list _, .none, _, _, al, _ | .list _, .bool _, _, _, al, _ | .list _, .int _, _, _, al, _ | .list _, .str _, _, _, al, _ | .list _, .tuple _, _, _, al, _ | .list _, .dict _, _, _, al, _
  | .tuple _, .none, _, _, al, _ | .tuple _, .bool _, _, _, al, _ | .tuple _, .int _, _, _, al, _ | .tuple _, .str _, _, _, al, _ | .tuple _, .list _, _, _, al, _ | .tuple _, .dict _, _, _, al, _
  | .dict _, .none, _, _, al, _ | .dict _, .bool _, _, _, al, _ | .dict _, .int _, _, _, al, _ | .dict _, .str _, _, _, al, _ | .dict _, .list _, _, _, al, _ | .dict _, .tuple _, _, _, al, _ | .dict _, .dict _, _, _, al, _ => by simp [PySem.W.alike] at al
theorem toks_inj : ∀ (xs ys : List PyData) (l m : List (Int ⊕ List Nat)), PySem.W.alikeAll xs ys = true → PySem.W.keyToksAll xs ++ l = PySem.W.keyToksAll ys ++ m → xs = ys ∧ l = m
  | [], [], l, m, _, h => ⟨rfl, by simpa [PySem.W.keyToksAll] using h⟩
  | [], _ :: _, l, m, _, h => by simp [PySem.W.keyToksAll] at h
  | _ :: _, [], l, m, _, h => by simp [PySem.W.keyToksAll] at h
  | x :: xs, y :: ys, l, m, al, h => by
    obtain ⟨a1, a2⟩ := PySem.W.alike_all_cons al
    simp only [PySem.W.keyToksAll, List.cons_append, List.cons.injEq, true_and, List.append_assoc] at h
    obtain ⟨e1, e2⟩ := tok_inj x y _ _ a1 h
    obtain ⟨e3, e4⟩ := toks_inj xs ys l m a2 e2
    exact ⟨by rw [e1, e3], e4⟩
end
theorem lt_total {x y : PyData} (al : PySem.W.alike x y = true) (h1 : PySem.W.dataLt x y = false) (h2 : PySem.W.dataLt y x = false) : x = y :=
  (tok_inj x y [] [] al (by rw [List.append_nil, List.append_nil]; exact PyProof.Rows.lex_total _ _ h1 h2)).1
theorem le_iff {x y : PyData} : PySem.W.dataLe false id x y = true ↔ PySem.W.dataLt y x = false := by
  show (!PySem.W.dataLt y x) = true ↔ _
  cases PySem.W.dataLt y x <;> simp
theorem srt_pw (l : List PyData) : (srt l).Pairwise fun a b => PySem.W.dataLe false id a b = true := by
  refine List.pairwise_mergeSort (fun a b c h1 h2 => ?_) (fun a b => ?_) l
  · rw [le_iff] at *
    cases q : PySem.W.dataLt c a with
    | false => rfl
    | true =>
      rcases PyProof.Rows.lex_negTrans _ (PySem.W.keyToks b) _ q with z | z
      · exact absurd (show PySem.W.dataLt c b = true from z) (by rw [h2]; decide)
      · exact absurd (show PySem.W.dataLt b a = true from z) (by rw [h1]; decide)
  · rw [Bool.or_eq_true, le_iff, le_iff]
    cases q : PySem.W.dataLt b a with
    | false => exact .inl rfl
    | true =>
      right
      cases q2 : PySem.W.dataLt a b with
      | false => rfl
      | true =>
        have := PyProof.Rows.lex_trans _ _ _ q q2
        rw [PyProof.Rows.lex_irrefl] at this
        cases this
theorem srt_eq {l m : List PyData} (al : PySem.W.AllAlike l) (h : l.Perm m) : srt l = srt m := by
  refine List.Perm.eq_of_pairwise (le := fun a b => PySem.W.dataLe false id a b = true) (fun a b ha hb h1 h2 => ?_) (srt_pw l) (srt_pw m) ((srt_perm l).trans (h.trans (srt_perm m).symm))
  have ha' : a ∈ l := (srt_perm l).mem_iff.mp ha
  have hb' : b ∈ l := h.mem_iff.mpr ((srt_perm m).mem_iff.mp hb)
  exact lt_total (al a ha' b hb') (le_iff.mp h2) (le_iff.mp h1)
/-- each once -/
noncomputable def dd : List PyData → List PyData
  | [] => []
  | d :: ds => if d ∈ ds then dd ds else d :: dd ds
theorem dd_mem {x : PyData} : ∀ {l : List PyData}, x ∈ dd l ↔ x ∈ l
  | [] => Iff.rfl
  | d :: ds => by
    unfold dd
    by_cases h : d ∈ ds
    · rw [if_pos h, dd_mem, List.mem_cons]
      exact ⟨.inr, fun z => z.elim (fun e => e ▸ h) id⟩
    · rw [if_neg h, List.mem_cons, List.mem_cons, dd_mem]
theorem dd_nd : ∀ l : List PyData, (dd l).Nodup
  | [] => List.nodup_nil
  | d :: ds => by
    unfold dd
    by_cases h : d ∈ ds
    · rw [if_pos h]; exact dd_nd ds
    · rw [if_neg h]
      exact List.nodup_cons.mpr ⟨fun z => h (dd_mem.mp z), dd_nd ds⟩
theorem dd_perm {l m : List PyData} (nd : m.Nodup) (h : ∀ x, x ∈ m ↔ x ∈ l) : m.Perm (dd l) :=
  (List.perm_ext_iff_of_nodup nd (dd_nd l)).mpr fun x => (h x).trans dd_mem.symm
end Z

namespace Z
open PySem L2 PyProof.Rows

/-! ### sets as tracked things -/
def SxO (w : World) (a : Addr) (L : List SEn) : HO := .ext fun h => ∃ es ep t, (∃ o, h.get? a = some o ∧ o.ExactSet ∧ o.data = .set es ep t) ∧ es.toList = rowsD w L ∧ TabOk t (hsD w L) ∧ (L.map (·.2)).Nodup ∧ (w.params.followText "set-order" = true ∨ t.led = true) ∧ L.length * 5 < t.mask * 3 ∧ L.length < 64
theorem sx_of {P : Program} {w : World} {H : Hp} {h : Heap} {a : Addr} {L : List SEn} (ok : HOk P w H h) (e : H a = some (SxO w a L)) (kk : ∀ p ∈ L, KH h p.1 p.2) : ∃ es ep t, SR w h a L es ep t := by
  obtain ⟨es, ep, t, h1, h2, h3, h4, h5, h6, h7⟩ := (ok a _ e).1
  exact ⟨es, ep, t, h1, h2, h3, h4, kk, h5, h6, h7⟩
theorem sx_new {P : Program} {w : World} {H : Hp} {h : Heap} {a : Addr} {L : List SEn} {es : Array (Int × Value)} {ep : Nat} {t : SetTable} (R : SR w h a L es ep t) : ObjOk P w H h a (SxO w a L) :=
  ⟨⟨es, ep, t, R.ob, R.rows, R.tab, R.nd, R.led, R.room, R.few⟩, let ⟨o, e, _⟩ := R.ob; ⟨o, e⟩, fun g1 g2 ⟨es, ep, t, ⟨o, e, r⟩, q⟩ k => ⟨es, ep, t, ⟨o, k o e, r⟩, q⟩⟩
section
variable {X : Cx} {pins : List (Addr × Obj)} {σ : L2.St} {H : Hp} {s : Shared}
theorem kh_of (I : Inv X pins σ H s) {a : Addr} {d : PyData} (k : KyD X.K H a d) : KH s.heap a d := ⟨dp_at I d _ _ k.2.1 k.1 rfl, k.2.2⟩
theorem vals_back' : ∀ {ks : List SEn} {us : List Value}, Vals (ks.map fun p => V.ref p.1) us → us = ks.map fun p => Value.ref p.1
  | [], _, .nil => rfl
  | p :: ks, _, .cons r t => by cases r; rw [vals_back' t]; rfl
theorem vals_fore : ∀ (ks : List SEn), Vals (ks.map fun p => V.ref p.1) (ks.map fun p => Value.ref p.1)
  | [] => .nil
  | p :: ks => .cons rfl (vals_fore ks)
def rSetD (K : PySem.W.Frag) (w : World) : List V → Hp → VK → Prop := fun vs H Q => ∃ (l : Addr) (ks : List SEn), vs = [V.ref l] ∧ SqL K H l (ks.map fun p : SEn => V.ref p.1) ∧ (∀ p ∈ ks, KyD K H p.1 p.2) ∧ ks.length < 64 ∧
  ∀ (a : Addr) (L : List SEn), H a = none → (∀ p ∈ L, p ∈ ks) → (∀ p ∈ ks, p.2 ∈ L.map (·.2)) → (L.map (·.2)).Nodup → Q (.ref a) (upd H a (SxO w a L))
theorem cr_setD (hc : X.calm = true) (hu : X.A.units + 20 < cLine) : CallR X (.type "set") (rSetD X.K X.w) := by
  intro pins s σ H vs us Q I r h
  obtain ⟨l, ks, rfl, hl, hk, hf, q⟩ := h
  rw [Vals.ref1 r]
  obtain ⟨its, rv, pl, hz⟩ := I.list hl
  refine call_setD (P := X.prog) (w := X.w) ks (I.ok.hd hc) pl.isList (by simpa using vals_back' rv) (fun p hp => kh_of I (hk p hp)) hf hu fun h' tk L es ep t R g k => ?_
  have hn := I.hok.fresh (Nat.le_refl s.heap.objs.size)
  refine ⟨.ref s.heap.objs.size, upd H s.heap.objs.size (SxO X.w s.heap.objs.size L), I.laid (t' := tk) k (Nat.le_refl _) (sx_new R), rfl, q _ L hn (fun p hp => List.mem_of_mem_take (g.1 p hp)) (fun p hp => g.2.1 p (by rw [List.take_length]; exact hp)) R.nd⟩
theorem perm_back {α β : Type} {f : α → β} {l m : List β} (h : l.Perm m) : ∀ {L : List α}, m = L.map f → ∃ M : List α, M.Perm L ∧ l = M.map f := by
  induction h with
  | nil => intro L e; exact ⟨L, .refl _, e⟩
  | cons x p ih =>
    intro L e
    cases L with
    | nil => cases e
    | cons y L =>
      injection e with e1 e2
      obtain ⟨M, p1, e3⟩ := ih e2
      exact ⟨y :: M, p1.cons y, by rw [e1, e3]; rfl⟩
  | swap x y l =>
    intro L e
    match L, e with
    | u :: v :: L, e =>
      injection e with e1 e2
      injection e2 with e2 e3
      exact ⟨v :: u :: L, List.Perm.swap _ _ _, by rw [e1, e2, e3]; rfl⟩
  | trans p q ih1 ih2 =>
    intro L e
    obtain ⟨M, p1, e1⟩ := ih2 e
    obtain ⟨N, p2, e2⟩ := ih1 e1
    exact ⟨N, p2.trans p1, e2⟩
theorem reads_key {h : Heap} : ∀ (d : PyData) (v : Value), isAt h d v → Reads h v d []
  | .int i, _, x => by obtain ⟨t, rfl⟩ := x; exact .int i t
  | .str i, _, x => by obtain ⟨t, rfl⟩ := x; exact .str i t
  | .tuple ds, _, x => by
    obtain ⟨a, rfl, o, its, n, h1, h2, h3, h4⟩ := x
    exact .tuple h1 h2 h3 (readsAll_key ds _ h4)
  | .none, _, x => x.elim
  | .bool _, _, x => x.elim
  | .list _, _, x => x.elim
  | .dict _, _, x => x.elim
where
  readsAll_key {h : Heap} : ∀ (ds : List PyData) (vs : List Value), isAts h ds vs → ReadsAll h vs ds []
  | [], [], _ => .nil
  | [], _ :: _, x => x.elim
  | _ :: _, [], x => x.elim
  | d :: ds, v :: vs, x => by
    have := ReadsAll.cons (reads_key d v x.1) (readsAll_key ds vs x.2)
    simpa using this
theorem each_self {R : Value → SEn → Prop} : ∀ (L : List SEn), (∀ p ∈ L, R (Value.ref p.1) p) → PySem.W.EachIs R (L.map fun p => Value.ref p.1) L
  | [], _ => .nil
  | p :: L, h => .cons (h p List.mem_cons_self) (each_self L fun q hq => h q (List.mem_cons_of_mem _ hq))
theorem each_ref : ∀ {us : List Value} {L : List SEn}, PySem.W.EachIs (fun u (p : SEn) => u = .ref p.1) us L → us = L.map fun p => Value.ref p.1
  | _, _, .nil => rfl
  | _, _, .cons h t => by rw [h, each_ref t]; rfl
def rSortSet (K : PySem.W.Frag) (w : World) (u : Nat) : List V → Hp → VK → Prop := fun vs H Q => ∃ (a : Addr) (L : List SEn), vs = [V.ref a] ∧ H a = some (SxO w a L) ∧ (∀ p ∈ L, KyD K H p.1 p.2) ∧ PySem.W.AllAlike (L.map (·.2)) ∧ PySem.W.Sortable (L.map (·.2)) ∧ (∀ p ∈ L, u + 2 + p.2.depth < cLine) ∧
  ∀ (p : Addr) (M : List SEn), M.Perm L → M.map (·.2) = srt (L.map (·.2)) → H p = none → Q (.ref p) (upd H p (.lst (M.map fun q => V.ref q.1)))
theorem cr_sortSet (hc : X.calm = true) : CallR X (.builtin "sorted") (rSortSet X.K X.w X.A.units) := by
  intro pins s σ H vs us Q I r h
  obtain ⟨a, L, rfl, ha, hk, al, so, hu, q⟩ := h
  have kk : ∀ p ∈ L, KH s.heap p.1 p.2 := fun p hp => kh_of I (hk p hp)
  obtain ⟨es, ep, t, R⟩ := sx_of I.hok ha kk
  rw [Vals.ref1 r]
  obtain ⟨o, q1, q2, q3⟩ := R.ob
  have few := R.few
  have ln := rowsD_len R.rows
  refine Calls.call_function_entry kind_sorted plain_sorted entry_sorted (args_sorted1 _) ?_
  unfold Builtin.«sorted»
  refine wpAny_bind (m := checkCount "sorted" 1 1 _) (wpAny_pure ?_)
  refine wpAny_bind (collect_set (A := X.A.in1) (I.ok.hd hc) ⟨o, q1, q2.1, q3⟩ R.fit (by unfold scanBound; omega) R.tab.ris R.led fun s1 out k1 hz g1 o1 pm => ?_)
  have e0 : es.toList.map (·.2) = L.map fun p => Value.ref p.1 := by rw [R.rows]; simp [rowsD]
  obtain ⟨M, pM, eM⟩ := perm_back pm e0
  subst eM
  have lM := pM.length_eq
  refine wpAny_bind (wpAny_newList ?_ (by rw [List.length_map, sizeLine_eq]; omega))
  have at0 : (s1.heap.push (seqObj "list" (M.map fun p => Value.ref p.1).toArray 0)).get? s1.heap.objs.size = some (seqObj "list" (M.map fun p => Value.ref p.1).toArray 0) := Heap.get?_push_size _ rfl
  have k2 : ∀ p ∈ M, KH (s1.heap.push (seqObj "list" (M.map fun p => Value.ref p.1).toArray 0)) p.1 p.2 := fun p hp => (kk p (pM.mem_iff.mp hp)).old fun b u e => Heap.get?_push_of_some _ (k1 b u e)
  have al2 : PySem.W.AllAlike (M.map (·.2)) := fun d hd d' hd' => al d ((pM.map _).mem_iff.mp hd) d' ((pM.map _).mem_iff.mp hd')
  have so2 : PySem.W.Sortable (M.map (·.2)) := by
    rcases so with z | z
    · exact .inl fun d hd => z d ((pM.map _).mem_iff.mp hd)
    · exact .inr fun d hd => z d ((pM.map _).mem_iff.mp hd)
  refine wpAny_bind (wpAny_holding (PySem.W.list_sort_data (s := { s1 with heap := s1.heap.push (seqObj "list" (M.map fun p => Value.ref p.1).toArray 0) }) (R := fun u (p : SEn) => u = .ref p.1) (enc := fun p : SEn => p.2) at0 (each_self M fun _ _ => rfl)
    (each_self M fun p hp => ⟨[], reads_key _ _ (k2 p hp).1, by simp⟩) al2 so2 (by rw [sizeLine_eq]; omega) (fun p hp => by have := hu p (pM.mem_iff.mp hp); show X.A.units + 1 + 1 + p.2.depth < cLine; omega) fun out ho eo => ?_))
  have e1 := each_ref eo
  subst e1
  obtain ⟨c, hcc⟩ := sortedHeap_at (vs := M.map fun p => Value.ref p.1) (out := ((M.mergeSort (PySem.W.dataLe false fun p : SEn => p.2)).map fun p => Value.ref p.1).toArray) at0
  have pN : (M.mergeSort (PySem.W.dataLe false fun p : SEn => p.2)).Perm L := (List.mergeSort_perm _ _).trans pM
  have srtN : (M.mergeSort (PySem.W.dataLe false fun p : SEn => p.2)).map (·.2) = srt (L.map (·.2)) := by
    have h3 := List.map_mergeSort (r := PySem.W.dataLe false fun p : SEn => p.2) (s := PySem.W.dataLe false id) (f := fun p : SEn => p.2) (l := M) (fun _ _ _ _ => rfl)
    rw [h3]
    exact srt_eq al2 (pM.map _)
  generalize M.mergeSort (PySem.W.dataLe false fun p : SEn => p.2) = N at pN srtN hcc ⊢
  have old : ∀ b u, s.heap.get? b = some u → (sortedHeap (s1.heap.push (seqObj "list" (M.map fun p => Value.ref p.1).toArray 0)) s1.heap.objs.size (M.map fun p => Value.ref p.1) (N.map fun p => Value.ref p.1).toArray).get? b = some u := fun b u e => by
    have e2 := k1 b u e
    have lt := Heap.lt_size e2
    rw [sortedHeap_old (Nat.ne_of_lt lt) (by rw [size_push']; exact Nat.lt_succ_of_lt lt)]
    exact Heap.get?_push_of_some _ e2
  have hn : H s1.heap.objs.size = none := I.hok.fresh hz
  have lN : (N.map fun q => V.ref q.1).length ≤ sizeLine := by rw [List.length_map, pN.length_eq, sizeLine_eq]; omega
  refine wpAny_pure ⟨_, rfl, ?_⟩
  have J : Inv X pins σ (upd H s1.heap.objs.size (.lst (N.map fun q => V.ref q.1))) { s with heap := sortedHeap (s1.heap.push (seqObj "list" (M.map fun p => Value.ref p.1).toArray 0)) s1.heap.objs.size (M.map fun p => Value.ref p.1) (N.map fun p => Value.ref p.1).toArray, gens := s1.gens, drawn := s1.drawn, toks := s1.toks } :=
    I.call (ch := []) (Un.laid old hz hn) (I.hok.laid old hz ⟨lN, _, c, vals_fore N, hcc⟩) (by rw [g1]; exact I.bare) (fun _ z => nomatch z)
  have e : ({ s1 with heap := sortedHeap (s1.heap.push (seqObj "list" (M.map fun p => Value.ref p.1).toArray 0)) s1.heap.objs.size (M.map fun p => Value.ref p.1) (N.map fun p => Value.ref p.1).toArray } : Shared) = { s with heap := sortedHeap (s1.heap.push (seqObj "list" (M.map fun p => Value.ref p.1).toArray 0)) s1.heap.objs.size (M.map fun p => Value.ref p.1) (N.map fun p => Value.ref p.1).toArray, gens := s1.gens, drawn := s1.drawn, toks := s1.toks } := by
    cases s1
    cases s
    cases o1
    rfl
  show EP _ _ _ _ _ { s1 with heap := _ }
  rw [e]
  exact ⟨.ref _, _, J, rfl, q _ N pN srtN hn⟩
end
end Z

namespace Z
open PySem L2 PyProof.Rows

/-! ### the tape of a law -/
structure Tp where
  cells : List Int
  n : Int
  x : Int
  y : Int
def OTp (b : Tp) : Own where
  holds := fun K F H v fp => ∃ p c, v = .ref p ∧ fp = [p, c] ∧ p ≠ c ∧ H p = some (.lst [.ref c, .int b.n, .int b.x, .int b.y]) ∧ H c = some (.lst (b.cells.map .int))
  stay := fun ⟨p, c, e1, e2, n, e3, e4⟩ e k => ⟨p, c, e1, e2, n, k p (by rw [e2]; simp) _ e3, k c (by rw [e2]; simp) _ e4⟩
theorem otp_inj (K : PySem.W.Frag) {b b' : Tp} (h : OTp b = OTp b') : b = b' := by
  have h1 : (OTp b).holds K (fun _ => none) (fun a => if a = 0 then some (.lst [.ref 1, .int b.n, .int b.x, .int b.y]) else some (.lst (b.cells.map .int))) (.ref 0) [0, 1] := ⟨0, 1, rfl, rfl, by decide, rfl, rfl⟩
  rw [h] at h1
  obtain ⟨p, c, e1, e2, n, e3, e4⟩ := h1
  cases e1
  cases e2
  simp at e3 e4
  obtain ⟨e3, e5, e6⟩ := e3
  have e7 : b.cells = b'.cells := (List.map_inj_right (fun x y e => by cases e; rfl)).mp e4
  obtain ⟨c, i, x, y⟩ := b
  obtain ⟨c', i', x', y'⟩ := b'
  simp at e3 e5 e6 e7
  rw [e7, e3, e5, e6]
section
variable {X : Cx} {e a b c : Expr} {es : List Expr} {st : Stmt} {rest body : List Stmt} {s s' s1 s2 s3 : S} {r : SD} {rs : List SD} {pos p : Pos} {P : Po} {x y : PyData} {i j : Int} {o n : Nat} {O O' : Own}
theorem put_oa {a : Addr} {vs : List V} {z : V} {k : Nat} (h : ixN vs.length i = some k) : PutO (OA a vs) i z (OA a (vs.set k z)) := fun K F H v fp ⟨e1, e2, e3⟩ => ⟨a, vs, k, e1, by rw [e2]; simp, e3, h, e1, e2, upd_same⟩
/-- the tape in two -/
theorem zss_openT {b : Tp} (hb : s.R[o]? = some (OTp b)) (k : ∀ p c, ZSs X rest ⟨s.e, s.R.set o (OA p [.ref c, .int b.n, .int b.x, .int b.y]) ++ [OA c (b.cells.map .int)]⟩ P) : ZSs X rest s P :=
  ⟨fun pins sh σ H D I ⟨t, T, ρ, e1, hb0, g, q⟩ => by
    subst e1
    obtain ⟨v, e2, ok, bk⟩ := g.obj hb
    obtain ⟨F, L, e1, g1⟩ := ok
    cases L with
    | nil => simp at e1
    | cons z L =>
      obtain ⟨z1, fp⟩ := z
      simp at e1
      obtain ⟨e3, e4⟩ := e1
      subst e3
      obtain ⟨u, e5, p, c, h1, h2, h3, h4, h5⟩ := g1.ent _ List.mem_cons_self
      have e5' : v = u := Option.some.inj e5
      subst e5'
      subst h1
      have h2' : fp = [p, c] := h2
      subst h2'
      have nd := g1.nd
      unfold fpsOf at nd
      rw [List.flatMap_cons] at nd
      obtain ⟨n1, n2, n3⟩ := List.nodup_append.mp nd
      have own := g1.own
      unfold fpsOf at own
      rw [List.flatMap_cons] at own
      have a1 := g1.tail.oCons (v := .ref c) (P := OA c (b.cells.map .int)) (fp := [c]) ⟨rfl, rfl, h5⟩ (by simp) (fun a ha hx => n3 a (by simp at ha; simp [ha]) a hx rfl) fun a ha => own a (by simp at ha; simp [ha])
      have a2 := a1.oCons (v := .ref p) (P := OA p [.ref c, .int b.n, .int b.x, .int b.y]) (fp := [p]) ⟨rfl, rfl, h4⟩ (by simp) (fun a ha hx => by
        unfold fpsOf at hx
        rw [List.flatMap_cons] at hx
        rcases List.mem_append.mp hx with hx | hx
        · simp at ha hx; subst ha hx; exact h3 rfl
        · exact n3 a (by simp at ha; simp [ha]) a hx rfl) fun a ha => own a (by simp at ha; simp [ha])
      have a3 : OK X.K ((IT.o (OA p [.ref c, .int b.n, .int b.x, .int b.y]), some (V.ref p)) :: (((IT.o (OA c (b.cells.map .int)), some (V.ref c)) :: T) ++ (ES t.e σ ++ (RS t.R ρ).set o (IT.un, some (V.ref p))))) H := ⟨F, _, by rw [List.map_cons, List.map_cons, e4]; rfl, a2⟩
      have a4 := ZE.frz.back2 (T2 := (IT.o (OA c (b.cells.map .int)), some (V.ref c)) :: T) g hb e2 a3
      have a5 := Sat.push a4.ok a4.le a4.lr a4.al
      refine (k p c).run pins sh σ H D I ⟨_, T, ρ ++ [.ref c], rfl, by simp; omega, a5, ?_⟩
      rw [take_pre (List.prefix_append _ _) hb0]
      exact q⟩
/-- .. and in one again -/
theorem zss_closeT {b : Tp} {p c : Addr} {e' : List SD} {R : List Own} (hs : s = ⟨s.e, R ++ [OA c (b.cells.map .int)]⟩) (ho : R[o]? = some (OA p [.ref c, .int b.n, .int b.x, .int b.y])) (hb : P.b ≤ R.length) (w : wkE s.e e') (lw : low R.length e') (k : ZSs X rest ⟨e', R.set o (OTp b)⟩ P) : ZSs X rest s P :=
  ⟨fun pins sh σ H D I ⟨t, T, ρ, e1, hb0, g, q⟩ => by
    subst e1
    rw [hs] at g
    have lr := g.lr
    simp at lr
    obtain ⟨ρ0, v0, hρ⟩ : ∃ ρ0 v0, ρ = ρ0 ++ [v0] := ⟨ρ.take R.length, ρ[R.length]'(by omega), by
      conv => lhs; rw [← List.take_append_drop R.length ρ]
      congr 1
      rw [List.drop_eq_getElem_cons (by omega), List.drop_eq_nil_of_le (by omega)]⟩
    subst hρ
    have lr0 : R.length = ρ0.length := by simpa using lr
    have q1 : RS (R ++ [OA c (b.cells.map .int)]) (ρ0 ++ [v0]) = RS R ρ0 ++ [(IT.o (OA c (b.cells.map .int)), some v0)] := by
      unfold RS
      rw [List.zipWith_append lr0]
      rfl
    have ok := g.ok
    rw [show (⟨t.e, R ++ [OA c (b.cells.map .int)]⟩ : S).R = R ++ [OA c (b.cells.map .int)] from rfl, q1] at ok
    have ok1 : OK X.K (ES t.e σ ++ (((IT.o (OA c (b.cells.map .int)), some v0) :: T) ++ RS R ρ0)) H := by
      refine ok.perm ?_
      show (T ++ (ES t.e σ ++ (RS R ρ0 ++ [(IT.o (OA c (b.cells.map .int)), some v0)]))).Perm (ES t.e σ ++ ([(IT.o (OA c (b.cells.map .int)), some v0)] ++ T ++ RS R ρ0))
      simp only [List.append_assoc]
      refine (cas _ _ _).trans (List.Perm.append_left _ ?_)
      refine List.Perm.trans ?_ List.perm_append_comm
      rw [List.append_assoc]
    have g0 : Sat X.K ⟨e', R⟩ σ ρ0 ((IT.o (OA c (b.cells.map .int)), some v0) :: T) H := by
      refine ⟨(wkE_len w).trans g.le, lr0, fun i j he => ?_, ?_⟩
      · obtain ⟨a, ha, hor⟩ := wkE_get w he
        rcases hor with e | e
        · subst e
          obtain ⟨v, h1, h2⟩ := g.al i j ha
          exact ⟨v, h1, by rw [List.getElem?_append_left (by rw [← lr0]; exact low_get lw he)] at h2; exact h2⟩
        · cases e
      · refine (ok_es (l := ((IT.o (OA c (b.cells.map .int)), some v0) :: T) ++ RS R ρ0) w ok1).perm ?_
        exact cas _ _ _
    obtain ⟨v, e2, ok2, bk⟩ := g0.obj ho
    obtain ⟨F, L, e1, g1⟩ := ok2
    match L, e1, g1 with
    | (z1, fp) :: (z2, fp2) :: L, e1, g1 =>
      simp at e1
      obtain ⟨e3, e5, e4⟩ := e1
      subst e3 e5
      obtain ⟨u, e6, h1, h2, h3⟩ := g1.ent _ List.mem_cons_self
      obtain ⟨u2, e7, k1, k2, k3⟩ := g1.ent _ (List.mem_cons_of_mem _ List.mem_cons_self)
      have e6' : v = u := Option.some.inj e6
      subst e6'
      have e7' : v0 = u2 := Option.some.inj e7
      subst e7'
      have h2' : fp = [p] := h2
      have k2' : fp2 = [c] := k2
      subst h2' k2'
      have nd := g1.nd
      unfold fpsOf at nd
      rw [List.flatMap_cons, List.flatMap_cons] at nd
      have own := g1.own
      unfold fpsOf at own
      rw [List.flatMap_cons, List.flatMap_cons] at own
      obtain ⟨n1, n2, n3⟩ := List.nodup_append.mp nd
      obtain ⟨m1, m2, m3⟩ := List.nodup_append.mp n2
      have pc : p ≠ c := fun e => n3 p (by simp) c (by simp) e
      have a1 := g1.tail.tail.oCons (v := v) (P := OTp b) (fp := [p, c]) ⟨p, c, h1, rfl, pc, h3, k3⟩ (by simp [pc]) (fun a ha hx => by
        simp at ha
        rcases ha with rfl | rfl
        · exact n3 a (by simp) a (List.mem_append_right _ hx) rfl
        · exact m3 a (by simp) a hx rfl) fun a ha => own a (by
        simp at ha
        rcases ha with rfl | rfl <;> simp)
      have a2 : OK X.K ((IT.o (OTp b), some v) :: (T ++ (ES e' σ ++ (RS R ρ0).set o (IT.un, some v)))) H := ⟨F, _, by rw [List.map_cons, e4], a1⟩
      have a3 := ZE.frz.back2 (T2 := T) g0 ho e2 a2
      refine k.run pins sh σ H D I ⟨_, T, ρ0, rfl, by omega, a3, ?_⟩
      rw [take_pre (List.prefix_append ρ0 [v0]) (by omega)] at q
      exact q⟩
end
/-! the numbers -/
def mixT (n : Int) : Int :=
  let a := (n * 6364136223846793005 + 1442695040888963407) % 18446744073709551616
  (a * a / 4294967296 + a * 69621) % 18446744073709551557
def loadT (b : Tp) : Tp := match b.cells[b.n.toNat]? with
  | some c => ⟨b.cells, b.n + 1, if decide (1000000000000000000 ≤ cellB c) = true then cellB c else mixT (mixT (cellB c) + (b.n + 1)), mixT (b.y + cellB c)⟩
  | none => ⟨b.cells, b.n, mixT (b.y + 1), mixT (b.y + 1)⟩
def takeT (b : Tp) (m : Int) : Int × Tp :=
  let b' : Tp := if b.x < m then loadT b else b
  (b'.x % m, ⟨b'.cells, b'.n, b'.x / m, b'.y⟩)
structure TOK (b : Tp) : Prop where
  n : 0 ≤ b.n
  x : 0 ≤ b.x
  y : 0 ≤ b.y
  l : b.cells.length ≤ 63
theorem mix_pos (n : Int) : 0 ≤ mixT n := by
  unfold mixT
  exact Int.emod_nonneg _ (by decide)
theorem load_okT {b : Tp} (h : TOK b) : TOK (loadT b) := by
  obtain ⟨h1, h2, h3, h4⟩ := h
  unfold loadT
  split
  · rename_i c _
    have hp := cell_pos c
    exact ⟨by show 0 ≤ b.n + 1; omega, by show 0 ≤ (if _ then _ else _ : Int); split; exact hp; exact mix_pos _, mix_pos _, h4⟩
  · exact ⟨h1, mix_pos _, mix_pos _, h4⟩
theorem take_ex {b : Tp} {m : Int} (h : TOK b) (hm : 0 < m) : ∃ d b', takeT b m = (d, b') ∧ 0 ≤ d ∧ d < m ∧ TOK b' := by
  refine ⟨_, _, rfl, Int.emod_nonneg _ (by omega), Int.emod_lt_of_pos _ hm, ?_⟩
  split
  · obtain ⟨h1, h2, h3, h4⟩ := load_okT h
    exact ⟨h1, Int.ediv_nonneg h2 (by omega), h3, h4⟩
  · exact ⟨h.n, Int.ediv_nonneg h.x (by omega), h.y, h.l⟩
def aTk : Tp × Int → List IT := fun z => [.o (OTp z.1), .d (.int z.2)]
def okTk : Tp × Int → Prop := fun z => TOK z.1 ∧ CDivW 0 z.2
abbrev rTk : Tp × Int → IT := fun z => .d (.int (takeT z.1 z.2).1)
abbrev oTk : Tp × Int → List Own := fun z => [OTp (takeT z.1 z.2).2]
def aI1 : Int → List IT := fun n => [.d (.int n)]
def tape0 (ns : List Int) : Tp := ⟨ns, 0, 0, 1 + (ns.length : Nat)⟩
theorem tape0_ok {ns : List Int} (h : ns.length ≤ 63) : TOK (tape0 ns) := ⟨Int.le_refl _, Int.le_refl _, by show (0 : Int) ≤ 1 + _; omega, h⟩
theorem tk_ok {b : Tp} {m : Int} (h : TOK b) (hm : 0 < m) (h2 : m.natAbs < 2 ^ 200) : okTk (b, m) := ⟨h, hm, PySem.Flt.log2_lt_of (by decide) (Nat.lt_of_lt_of_le h2 (Nat.pow_le_pow_right (by decide) (by decide)))⟩
section
variable {X : Cx} {x1 x2 e : Expr} {s s1 s' : S} {p pos : Pos} {o k j : Nat} {b b' : Tp} {m d : Int}
theorem ze_take (c : Cal X.prog X.w X.K X.mg X.base k "_law_take" (preOf aTk okTk) (relOf aTk okTk rTk oTk)) (e : takeT b m = (d, b')) (ha : ZA X [x1, x2] s [.r o, .d (.int m)] s1) (ho : s1.R[o]? = some (OTp b)) (hb : TOK b) (hr : Room j X.A) (hm : 0 < m := by decide) (h2 : m.natAbs < 2 ^ 200 := by decide) (hk : k ≤ j := by omega)
    (h : Cl X "_law_take" x1 [x2] pos := by exact ⟨rfl, rfl, rfl⟩) : ZE X (.Call (.Name "_law_take" p) [x1, x2] [] pos) s (.d (.int d)) ⟨s1.e, s1.R.set o (OTp b')⟩ := by
  have := ze_callS1 (p := p) (b, m) c ha (tk_ok hb hm h2) ho rfl rfl hr hk rfl rfl h (by decide)
  rw [e] at this
  exact this
/-- [cells, 0, 0, n]: the tape -/
theorem ze_tapeD {es : List Expr} {ns : List Int} {i1 i2 i3 : Int} (h : ZA X es s [.r o, .d (.int i1), .d (.int i2), .d (.int i3)] s1) (ho : s1.R[o]? = some (OL (ns.map .int))) : ZE X (.List es pos) s (.r s1.R.length) ⟨s1.e, s1.R.set o gone ++ [OTp ⟨ns, i1, i2, i3⟩]⟩ := by
  refine PE.imp (pe_lst h) fun σ H Q ⟨T, ρ, g, q⟩ => ⟨T, ρ, g, fun vs ρ1 H1 p1 vrs g1 => ?_⟩
  obtain ⟨h1, h2⟩ := vrs
  match vs, h1 with
  | [v0, v1, v2, v3], _ =>
    have vr0 : ρ1[o]? = some v0 := h2 0 _ _ rfl rfl
    have e1 := see_int (i := i1) (v := v1) g1 (List.mem_cons_of_mem _ List.mem_cons_self)
    have e2 := see_int (i := i2) (v := v2) g1 (List.mem_cons_of_mem _ (List.mem_cons_of_mem _ List.mem_cons_self))
    have e3 := see_int (i := i3) (v := v3) g1 (List.mem_cons_of_mem _ (List.mem_cons_of_mem _ (List.mem_cons_of_mem _ List.mem_cons_self)))
    subst e1 e2 e3
    refine ⟨by show 4 ≤ sizeLine; decide, fun l hl => ?_⟩
    have g2 : Sat X.K s1 σ ρ1 T H1 := g1.tdrop.tdrop.tdrop.tdrop
    obtain ⟨v', e2, ok, bk⟩ := g2.obj ho
    have ev : v' = v0 := Option.some.inj (e2.symm.trans vr0)
    subst ev
    obtain ⟨F, L, e1, f1⟩ := ok
    cases L with
    | nil => simp at e1
    | cons z L =>
      obtain ⟨z1, fp⟩ := z
      simp at e1
      obtain ⟨e3, e4⟩ := e1
      subst e3
      obtain ⟨u, e5, c, ws, k1, k2, k3, k4⟩ := f1.ent _ List.mem_cons_self
      have e5' : v' = u := Option.some.inj e5
      subst e5' k1
      have k2' : fp = [c] := k2
      subst k2'
      have ew := dps_ints k4
      subst ew
      have nlc : l ≠ c := fun e => by rw [e, k3] at hl; cases hl
      have fr := f1.fresh (o := .lst [.ref c, .int i1, .int i2, .int i3]) hl
      have nd := f1.nd
      unfold fpsOf at nd
      rw [List.flatMap_cons] at nd
      obtain ⟨n1, n2, n3⟩ := List.nodup_append.mp nd
      have own := f1.own
      have nl : ∀ a ∈ fpsOf L, a ≠ l := fun a ha e => by
        obtain ⟨_, o, ho⟩ := own a (by unfold fpsOf; rw [List.flatMap_cons]; exact List.mem_append_right _ ha)
        rw [e, hl] at ho
        cases ho
      have a1 := fr.tail.oCons (v := .ref l) (P := OTp ⟨ns, i1, i2, i3⟩) (fp := [l, c]) ⟨l, c, rfl, rfl, nlc, upd_same, by rw [upd_ne nlc.symm]; exact k3⟩ (by simp [nlc]) (fun a ha hx => by
        simp at ha
        rcases ha with rfl | rfl
        · exact nl a hx rfl
        · exact n3 a (by simp) a hx rfl) fun a ha => by
        simp at ha
        rcases ha with rfl | rfl
        · exact ⟨ext_none f1.ext hl, _, upd_same⟩
        · exact fr.own a (by unfold fpsOf; rw [List.flatMap_cons]; simp)
      have a2 : OK X.K ((IT.o (OTp ⟨ns, i1, i2, i3⟩), some (V.ref l)) :: (T ++ (ES s1.e σ ++ (RS s1.R ρ1).set o (IT.un, some (V.ref c))))) (upd H1 l (.lst [.ref c, .int i1, .int i2, .int i3])) := ⟨F, _, by rw [List.map_cons, e4], a1⟩
      obtain ⟨F3, L3, e6, f3⟩ := a2
      have a3 : OK X.K ((IT.o gone, some (V.ref c)) :: (((IT.o (OTp ⟨ns, i1, i2, i3⟩), some (V.ref l)) :: T) ++ (ES s1.e σ ++ (RS s1.R ρ1).set o (IT.un, some (V.ref c))))) (upd H1 l (.lst [.ref c, .int i1, .int i2, .int i3])) :=
        ⟨F3, (((IT.o gone, some (V.ref c)), []) :: L3), by rw [List.map_cons, e6]; rfl, f3.oCons (v := .ref c) (P := gone) (fp := []) rfl List.nodup_nil (fun a ha => by cases ha) (fun a ha => by cases ha)⟩
      have a4 := ZE.frz.back2 (T2 := (IT.o (OTp ⟨ns, i1, i2, i3⟩), some (V.ref l)) :: T) g2 ho vr0 a3
      refine q _ (ρ1 ++ [.ref l]) _ (p1.trans (List.prefix_append _ _)) ?_ (Sat.tun (Sat.push a4.ok a4.le a4.lr a4.al))
      show (ρ1 ++ [V.ref l])[s1.R.length]? = _
      rw [g1.lr, List.getElem?_append_right (Nat.le_refl _), Nat.sub_self]
      rfl
end
theorem cut80 {ds : List PyData} (h : ds.length ≤ 63) : cut ds none (some 80) = ds := by
  unfold cut
  rw [show HT.sIx ds.length ds.length (some 80) = min 80 ds.length from HT.sIx_nat ds.length ds.length 80, HT.sIx_none]
  rw [List.drop_zero, Nat.sub_zero, Nat.min_eq_right (by omega), List.take_length]
end Z

namespace Z
open PySem L2 PyProof.Rows

/-! ### xs.extend(ys), xs += ys, ys any list -/
section
open AutoSeq1 MeetsSeq MeetsSeq2
theorem ext_any (l : Addr) (its : Array Value) (n : Nat) (b : Addr) (its2 : Array Value) (n2 : Nat) (dd : Option Addr) (sl : Array (Option Value)) (h0 : ¬(!its.isEmpty && Builtin.List.listTooLong (its.size + its2.size)) = true) (h1 : its.size ≤ sizeLine) (h2 : its.size + its2.size ≤ sizeLine + 1) :
    PySem.Meets (Builtin.«list.extend» ⟨[.ref l, .ref b], []⟩) (fun _ R s => s.heap.get? l = some { cls := .type "list", dict := none, data := .seq its n, slots := #[] } ∧ s.heap.get? b = some { cls := .type "list", dict := dd, data := .seq its2 n2, slots := sl } ∧
      R (.ok (.ret Value.none)) { s with heap := s.heap.update l (Obj.mapSeq fun x => x ++ its2), toks := s.toks }) :=
  PySem.Meets.of_wp fun prog w A R s h => by
    obtain ⟨hp, g, d, tk, os⟩ := s
    obtain ⟨hl, hb, h⟩ := h
    have f1 := AutoSeq1.idx_int
    have f2 := AutoSeq1.sub_tuple_tuple
    have f3 := AutoSeq1.sub_list_list
    have f4 := AutoSeq1.sub_tuple_list
    have f5 := AutoSeq1.sub_list_tuple
    have hz' : (its ++ its2).size ≤ sizeLine + 1 := by rw [Array.size_append]; exact h2
    wp_walk using (wpAny_updateSeq hl rfl (hz := h1) (_hz' := hz')), wpAny_loadPart' hl, wpAny_loadPart' hb
    exact ⟨_, rfl, h⟩
end
section
variable {X : Cx} {e a b c : Expr} {es : List Expr} {st : Stmt} {rest body : List Stmt} {s s' s1 s2 s3 : S} {r r1 : SD} {rs : List SD} {pos p p2 q : Pos} {P : Po} {x y : PyData} {i j k : Int} {o n : Nat} {ds es' : List PyData}
def rExtQ (K : PySem.W.Frag) : V → List V → Hp → VK → Prop := fun x vs H Q => ∃ l b xs zs, x = V.ref l ∧ vs = [V.ref b] ∧ H l = some (.lst xs) ∧ SqL K H b zs ∧ xs.length + zs.length ≤ sizeLine ∧ Q .non (upd H l (.lst (xs ++ zs)))
theorem mt_extQ : MtM X "list.extend" (rExtQ X.K) := by
  intro pins s σ H x vs v us Q I rx rv h
  obtain ⟨l, b, xs, zs, rfl, rfl, hl, hb, hz, q⟩ := h
  cases rx
  obtain ⟨u, rfl, ru⟩ := rv.one
  cases ru
  obtain ⟨z, its, n, r, h1, e⟩ := I.lstM hl
  obtain ⟨its2, r2, ⟨ob, n2, e2, e3, e4, e5⟩, z2⟩ := I.list hb
  obtain ⟨oc, od, dt, sl⟩ := ob
  simp only at e3 e4 e5
  subst e3 e5
  have h2 := r2.length
  have hsz : its.toArray.size + its2.toArray.size ≤ sizeLine := by rw [List.size_toArray, List.size_toArray]; omega
  refine call_meets F.slot_list_extend ⟨_, e, rfl⟩ F.entry_list_extend (F.args_list_extend_2 _ _)
    (ext_any l its.toArray n b its2.toArray n2 od sl (by rw [notLongL hsz, Bool.and_false]; exact Bool.false_ne_true) (by rw [List.size_toArray]; omega) (by omega)) ⟨e, e2, ?_⟩
  refine ⟨.non, _, I.lset (its' := its ++ its2) hl e (by simp) (r.append r2) ?_, rfl, q⟩
  rw [List.length_append]
  omega
theorem pe_ext {apos : Pos} {ds1 : List PyData} (ha : ZE X a s (.r o) s1) (he : ZA X [e] s1 [r] s2) (h1 : s1.R[o]? = some (OL ds1)) (ho : s2.R[o]? = some (OL ds)) (w : Vw s2 r (.list es')) (hz : ds.length + es'.length ≤ sizeLine) (nr : r ≠ .r o)
    (hp : ∀ {t1 : TE} {t2 : TA}, PE X a t1 → PA X [e] t2 → PE X (.Call (.Attribute a "extend" apos) [e] [] p2) (tBM X.K "list" (rExtQ X.K) t1 t2)) :
    ZE X (.Call (.Attribute a "extend" apos) [e] [] p2) s (.d .none) ⟨s2.e, s2.R.set o (OL (ds ++ es'))⟩ := by
  refine PE.imp (hp ha he) fun σ H Q ⟨T, ρ, g, k⟩ => ⟨T, ρ, g, fun v ρ1 H1 p1 vr1 g1 => ?_⟩
  have y1 := g1.see List.mem_cons_self vr1 (.r h1)
  cases y1 with
  | @lst a0 xs0 ds0 hs _ =>
    refine ⟨.inl ⟨rfl, _, hs⟩, _, ρ1, g1, fun vs ρ2 H2 p2 vr2 g2 => ?_⟩
    obtain ⟨v, e1, vr3⟩ := vrs1 vr2
    subst e1
    have g3 : Sat X.K s2 σ ρ2 ((itOf r, some v) :: (itOf (SD.r o), some (V.ref a0)) :: T) H2 := g2
    obtain ⟨u, e2, ok, back⟩ := g3.obj ho
    have eu : u = V.ref a0 := Option.some.inj (e2.symm.trans (vr1.mono p2))
    subst eu
    -- what is added, in the frozen part
    obtain ⟨F, L, eL, hL⟩ := ok
    cases L with
    | nil => simp at eL
    | cons z L =>
      obtain ⟨z1, fp⟩ := z
      simp at eL
      obtain ⟨e3, e4⟩ := eL
      subst e3
      have fz : Fz X.K F ((IT.o (OL ds), some (V.ref a0)) :: ((itOf r, some v) :: (itOf (SD.r o), some (V.ref a0)) :: T ++ (ES s2.e σ ++ (RS s2.R ρ2).set o (IT.un, some (V.ref a0))))) H2 := ⟨_, by rw [List.map_cons, e4]; rfl, hL⟩
      obtain ⟨q, ws, e5, e6, e7, e8⟩ := fz.putL (ds' := ds)
      cases e5
      have see : ∃ b zs, v = V.ref b ∧ SqL X.K H2 b zs ∧ DpAll X.K F zs es' := by
        cases w with
        | d =>
          obtain ⟨u', e9, hd⟩ := fz.at (x := .list es') (v := some v) (List.mem_cons_of_mem _ List.mem_cons_self)
          cases e9
          cases hd with
          | lst hs ha => exact ⟨_, _, rfl, fz.ext.l hs, ha⟩
        | r ej =>
          rename_i j'
          by_cases ej2 : j' = o
          · subst ej2
            exact absurd rfl nr
          · have hv : ρ2[j']? = some v := vr3
            have m2 : (IT.o (OL es'), some v) ∈ (IT.o (OL ds), some (V.ref a0)) :: ((itOf (SD.r j'), some v) :: (itOf (SD.r o), some (V.ref a0)) :: T ++ (ES s2.e σ ++ (RS s2.R ρ2).set o (IT.un, some (V.ref a0)))) := by
              refine List.mem_cons_of_mem _ (List.mem_append_right _ (List.mem_append_right _ ?_))
              have := rs_get ej hv
              exact List.mem_of_getElem? (i := j') (by rw [List.getElem?_set_ne (fun z => ej2 z.symm)]; exact this)
            obtain ⟨u', fp', e9, b, zs, e10, e11, e12, e13⟩ := fz.own m2
            cases e9
            exact ⟨b, zs, e10, .of e12, e13⟩
      obtain ⟨b, zs, e9, e10, e11⟩ := see
      subst e9
      refine ⟨a0, b, ws, zs, rfl, rfl, e6, e10, by rw [dpsLen e7, dpsLen e11]; exact hz, k .non ρ2 _ (p1.trans p2) trivial ?_⟩
      exact ((back _ _ (e8 _ _ (dpsApp e7 e11))).tdrop.tdrop).tflat (show flat .non .none from trivial)
theorem zss_ext {apos : Pos} {ds1 : List PyData} (ha : ZE X a s (.r o) s1) (he : ZE X e s1 r s2) (h1 : s1.R[o]? = some (OL ds1)) (ho : s2.R[o]? = some (OL ds)) (w : Vw s2 r (.list es')) (hz : ds.length + es'.length ≤ sizeLine) (k : ZSs X rest ⟨s2.e, s2.R.set o (OL (ds ++ es'))⟩ P) (nr : r ≠ .r o := by first | (intro h; cases h; done) | (intro h; injection h with h; revert h; decide))
    (hne : starEach [e] X.env = (false, eval e X.env) :: starEach [] X.env := by rfl)
    (hbase : attributeBase a "extend" X.env (eval a X.env) = eval a X.env := by rfl)
    (hfew : ((backTo p2 (starEach (e :: []) X.env)).all (fun x => !x.1) && (backToKw p2 (keywordEach [] X.env)).all (fun x => x.1.isSome)
      && decide ((e :: ([] : List Expr)).length + ([] : List Keyword).length + (if ([] : List Keyword).isEmpty then 0 else 1) < 30)) = true := by rfl)
    (hline : (apos.endLine == p2.line) = true := by rfl) (hplain : (backTo p2 (starEach [] X.env)).any (·.1) = false := by rfl)
    (hs : swapsWith (.Call (.Attribute a "extend" apos) [e] [] p2) none pos.line X.env = pure false := by rfl) :
    ZSs X (.Expr (.Call (.Attribute a "extend" apos) [e] [] p2) pos :: rest) s P :=
  zss_expr (pe_ext ha (za_cons he za_nil hne) h1 ho w hz nr fun h1 h2 => pe_bm PySem.F.plainAttrs_list PySem.F.slot_list_extend PySem.F.type_list_extend mt_extQ h1 h2 hbase hfew hline hne hplain) k hs
/-! ### a <= b <= c -/
theorem ze_chI {op op' : CmpOp} {f g : Int → Int → Bool} (h1 : OpR X (compareOp op) (rI0 fun i j => .bl (f i j))) (h2 : OpR X (compareOp op') (rI0 fun i j => .bl (g i j))) (ha : ZE X a s (.d (.int i)) s1) (hb : ZE X b s1 (.d (.int j)) s2) (hc : ZE X c s2 (.d (.int k)) s2) (hm : lastMarks [op, op'] [b, c] = false := by with_unfolding_all rfl) :
    ZE X (.Compare a [op, op'] [b, c] pos) s (.d (.bool (f i j && g j k))) s2 := by
  refine PE.imp (pe_chain h1 h2 ha hb hc hm) fun σ H Q ⟨T, ρ, g0, q⟩ => ?_
  refine ⟨T, ρ, g0, fun v ρ1 H1 p1 _ g1 => ⟨_, ρ1, g1, fun u ρ2 H2 p2 _ g2 => ?_⟩⟩
  have e1 := see_int (i := j) (v := u) g2 List.mem_cons_self
  have e2 := see_int (i := i) (v := v) g2 (List.mem_cons_of_mem _ List.mem_cons_self)
  subst e1 e2
  refine ⟨i, j, rfl, rfl, _, rfl, ?_⟩
  cases hf : f i j with
  | true =>
    rw [if_pos rfl]
    refine ⟨_, ρ2, g2, fun w ρ3 H3 p3 _ g3 => ?_⟩
    have e3 := see_int (i := k) (v := w) g3 List.mem_cons_self
    subst e3
    refine ⟨j, k, rfl, rfl, ?_⟩
    have := q (.bl (g j k)) ρ3 H3 ((p1.trans p2).trans p3) trivial (by
      rw [hf, Bool.true_and]
      exact g3.tdrop.tdrop.tdrop.tflat (show flat (.bl _) (.bool _) from rfl))
    exact this
  | false =>
    rw [if_neg Bool.false_ne_true]
    refine q (.bl false) ρ2 H2 (p1.trans p2) trivial ?_
    rw [hf, Bool.false_and]
    exact g2.tdrop.tdrop.tflat (show flat (.bl _) (.bool _) from rfl)
theorem zt_chI {op op' : CmpOp} {f g : Int → Int → Bool} (h1 : OpR X (compareOp op) (rI0 fun i j => .bl (f i j))) (h2 : OpR X (compareOp op') (rI0 fun i j => .bl (g i j))) (ha : ZE X a s (.d (.int i)) s1) (hb : ZE X b s1 (.d (.int j)) s2) (hc : ZE X c s2 (.d (.int k)) s2) (hm : lastMarks [op, op'] [b, c] = false := by with_unfolding_all rfl) :
    ZT X (.Compare a [op, op'] [b, c] pos) s (Is (f i j && g j k) s2) := by
  refine PT.imp (pt_chain h1 h2 ha hb hc hm) fun σ H Q ⟨T, ρ, g0, q⟩ => ?_
  refine ⟨T, ρ, g0, fun v ρ1 H1 p1 _ g1 => ⟨_, ρ1, g1, fun u ρ2 H2 p2 _ g2 => ?_⟩⟩
  have e1 := see_int (i := j) (v := u) g2 List.mem_cons_self
  have e2 := see_int (i := i) (v := v) g2 (List.mem_cons_of_mem _ List.mem_cons_self)
  subst e1 e2
  refine ⟨i, j, rfl, rfl, _, rfl, ?_⟩
  cases hf : f i j with
  | true =>
    rw [if_pos rfl]
    refine ⟨_, ρ2, g2, fun w ρ3 H3 p3 _ g3 => ?_⟩
    have e3 := see_int (i := k) (v := w) g3 List.mem_cons_self
    subst e3
    exact ⟨j, k, rfl, rfl, _, rfl, q _ s2 ρ3 H3 ⟨by rw [hf, Bool.true_and], rfl⟩ ((p1.trans p2).trans p3) g3.tdrop.tdrop.tdrop⟩
  | false =>
    rw [if_neg Bool.false_ne_true]
    exact ⟨_, rfl, q _ s2 ρ2 H2 ⟨by rw [hf, Bool.false_and], rfl⟩ (p1.trans p2) g2.tdrop.tdrop⟩
/-! ### sums, greatest, least of rows of ints -/
theorem ze_sum {ns : List Int} (w : Vw s1 r (.list (ns.map .int))) (ha : ZA X [a] s [r] s1) (hm : X.mg "sum" = none) (hk : X.calm = true := by rfl) (c : Cl X "sum" a [] pos := by exact ⟨rfl, rfl, rfl⟩) : ZE X (.Call (.Name "sum" p) [a] [] pos) s (.d (.int ns.sum)) s1 :=
  ze_callB (cr_sum hk) (by decide +kernel) ha hm c (ca1 fun u T σ ρ H Q g vr k => by
    obtain ⟨F, p, vs, e1, hs, hd, _⟩ := g.seeL List.mem_cons_self vr w
    subst e1
    have := dps_ints hd
    subst this
    exact ⟨p, ns, rfl, hs, k _ ρ H (pre_refl ρ) trivial (g.tdrop.tflat (show flat (.int _) (.int _) from rfl))⟩)
/-! ### sorted(set(xs)), xs tuples -/
theorem ks_of {K : PySem.W.Frag} {F : Hp} : ∀ {vs : List V} {ds : List PyData}, DpAll K F vs ds → (∀ d ∈ ds, isTup d = true) → ∃ ks : List SEn, vs = ks.map (fun p => V.ref p.1) ∧ ds = ks.map (·.2) ∧ ∀ p ∈ ks, Dp K F (.ref p.1) p.2
  | _, _, .nil, _ => ⟨[], rfl, rfl, fun p m => by cases m⟩
  | _, _, .cons (d := d) h1 h2, ht => by
    obtain ⟨ks, e1, e2, e3⟩ := ks_of h2 fun d hd => ht d (List.mem_cons_of_mem _ hd)
    have h0 := ht d List.mem_cons_self
    cases h1 with
    | @tup a xs ds hs ha =>
      refine ⟨(a, .tuple ds) :: ks, by rw [e1]; rfl, by rw [e2]; rfl, fun p m => ?_⟩
      rcases List.mem_cons.mp m with z | z
      · subst z; exact .tup hs ha
      · exact e3 p z
    | _ => cases h0
theorem dps_of_ks {K : PySem.W.Frag} {F : Hp} : ∀ {ks : List SEn}, (∀ p ∈ ks, Dp K F (.ref p.1) p.2) → DpAll K F (ks.map fun p => V.ref p.1) (ks.map (·.2))
  | [], _ => .nil
  | p :: ks, h => .cons (h p List.mem_cons_self) (dps_of_ks fun q m => h q (List.mem_cons_of_mem _ m))
theorem Fz.junk {K : PySem.W.Frag} {F H : Hp} {l : List En} {a : Addr} {u : HO} (f : Fz K F l H) (h : H a = none) : Fz K F l (upd H a u) := let ⟨L, e, g⟩ := f; ⟨L, e, g.fresh h⟩
theorem ze_setS (w : Vw s1 r (.list ds)) (ha : ZE X e s r s1) (ht : ∀ d ∈ ds, isTup d = true ∧ kOK d = true ∧ dep d ≤ 8) (few : ds.length < 64) (al : PySem.W.AllAlike ds) (so : PySem.W.Sortable ds) (hd : ∀ d ∈ ds, d.depth ≤ 60) (hu : X.A.units + 64 < cLine) (m1 : X.mg "sorted" = none) (m2 : X.mg "set" = none) (hk : X.calm = true := by rfl)
    (c1 : Cl X "sorted" (.Call (.Name "set" p2) [e] [] q) [] pos := by exact ⟨rfl, rfl, rfl⟩) (c2 : Cl X "set" e [] q := by exact ⟨rfl, rfl, rfl⟩) :
    ZE X (.Call (.Name "sorted" p) [.Call (.Name "set" p2) [e] [] q] [] pos) s (.d (.list (srt (dd ds)))) s1 := by
  refine PE.imp (pe_callB (cr_sortSet hk) c1.1 m1 (by decide +kernel) (pa_cons (pe_callTy (cr_setD hk (by omega)) c2.1 m2 (by decide +kernel) (za_cons ha za_nil c2.2.1) (by decide) (by decide) c2.2.1 c2.2.2) pa_nil c1.2.1) (by decide) (by decide) c1.2.1 c1.2.2) fun σ H Q ⟨T, ρ, g, k⟩ => ?_
  refine ⟨T, ρ, g, fun us ρ1 H1 p1 vr g1 => ?_⟩
  obtain ⟨u, e1, vr1⟩ := vrs1 vr
  subst e1
  have g2 : Sat X.K s1 σ ρ1 ((itOf r, some u) :: T) H1 := g1
  obtain ⟨F, l, vs, e2, hs, hda, f⟩ := g2.seeL List.mem_cons_self vr1 w
  subst e2
  obtain ⟨ks, e3, e4, hks⟩ := ks_of hda fun d m => (ht d m).1
  subst e3 e4
  have ky : ∀ {H' : Hp}, Ext F H' → ∀ p ∈ ks, KyD X.K H' p.1 p.2 := fun x p m => ⟨dpUp x _ _ (hks p m), (ht _ (List.mem_map.mpr ⟨p, m, rfl⟩)).2⟩
  refine ⟨l, ks, rfl, hs, ky f.ext, by simpa using few, fun a L ha1 h2 h3 h4 => ?_⟩
  have f2 : Fz X.K F _ (upd H1 a (SxO X.w a L)) := f.junk ha1
  have pm : (L.map (·.2)).Perm (dd (ks.map (·.2))) := dd_perm h4 fun x => by
    constructor
    · intro m
      obtain ⟨p, m1, e⟩ := List.mem_map.mp m
      exact List.mem_map.mpr ⟨p, h2 p m1, e⟩
    · intro m
      obtain ⟨p, m1, e⟩ := List.mem_map.mp m
      rw [← e]
      exact h3 p m1
  have sub : ∀ d ∈ L.map (·.2), d ∈ ks.map (·.2) := fun d m => by
    obtain ⟨p, m1, e⟩ := List.mem_map.mp m
    exact List.mem_map.mpr ⟨p, h2 p m1, e⟩
  have al2 : PySem.W.AllAlike (L.map (·.2)) := fun d m d' m' => al d (sub d m) d' (sub d' m')
  show rSortSet X.K X.w X.A.units [V.ref a] _ Q
  refine ⟨a, L, rfl, upd_same, fun p m => ky f2.ext p (h2 p m), al2, ?_, fun p m => ?_, fun b M pM eM hb => ?_⟩
  · rcases so with z | z
    · exact .inl fun d m => z d (sub d m)
    · exact .inr fun d m => z d (sub d m)
  · have := hd p.2 (List.mem_map.mpr ⟨p, h2 p m, rfl⟩)
    omega
  · have res := f2.lstD (dps_of_ks (ks := M) fun p m => hks p (h2 p (pM.mem_iff.mp m))) hb
    rw [eM, srt_eq al2 pm] at res
    exact k _ ρ1 _ p1 trivial (g2.out1 res)
end
end Z

namespace Z
open PySem L2 PyProof.Rows
section
variable {X : Cx} {tg iter elt tg1 iter1 : Expr} {ifs ifs1 : List Expr} {s s1 : S} {ds : List PyData} {pos : Pos}
theorem offv.wid {vs : List Nat} {σ σ' : L2.St} (h : offv vs (L2.wipe σ vs) σ') : L2.wipe σ' vs = L2.wipe σ vs := wipe_off h
/-- two fors, turns that leave the objects -/
theorem lc2_run {scope : Scope} {own : List (Str × Nat)} {vs vs1 : List Nat} (hvs : own.map (·.2) = vs) (hsub : ∀ i ∈ vs1, i ∈ vs) (es : PyData → List PyData) (f : PyData → PyData → PyData) (p : PyData → Bool) (q : PyData → PyData → Bool)
    (turn : ∀ x, x ∈ ds → ∃ t', (∀ z, ZG (bl X scope z) tg vs x ⟨wipeE s1.e vs, s1.R⟩ t') ∧ t'.R = s1.R ∧ (∀ z, ZTs (bl X scope z) ifs t' (Is (p x) t')) ∧ (p x = true → (∀ z, ZI (bl X scope z) tg1 iter1 t' (es x) t') ∧
      ∀ y, y ∈ es x → ∃ t2, (∀ z, ZG (bl X scope z) tg1 vs1 y ⟨wipeE t'.e vs1, s1.R⟩ t2) ∧ t2.R = s1.R ∧ (∀ z, ZTs (bl X scope z) ifs1 t2 (Is (q x y) t2)) ∧ (q x y = true → ∀ z, ZE (bl X scope z) elt t2 (.d (f x y)) t2)))
    (hsz : (ds.flatMap es).length < sizeLine) (hi : ZI X tg iter s ds s1) (hN : X.N.Nodup) (hc : X.calm = true) (ok : BlkOk X.N X.env.scope scope own) (hs : ∀ x, foldedSetIterable iter X.env x = pure x) (hs1 : ∀ env x, foldedSetIterable iter1 env x = pure x) :
    ∃ te, (PE X (.ListComp elt [⟨tg, iter, ifs, 0⟩, ⟨tg1, iter1, ifs1, 0⟩] scope pos) te ∧ ∀ (i : Nat) (y : Str) (py spos : Pos), X.N[i]? = some y → X.env.scope.names.lookup y = some .local → swapsWith (.ListComp elt [⟨tg, iter, ifs, 0⟩, ⟨tg1, iter1, ifs1, 0⟩] scope pos) (some (.Name y py)) spos.line X.env = pure true →
        PS X (.Assign [.Name y py] (.ListComp elt [⟨tg, iter, ifs, 0⟩, ⟨tg1, iter1, ifs1, 0⟩] scope pos) spos) (tAsg te (gName i))) ∧ ∀ T σ ρ H Q, Sat X.K s σ ρ T H →
      (∀ ρ' D H', ρ <+: ρ' → Sat X.K s1 σ ρ' ((IT.o (OL ((ds.filter p).flatMap fun x => ((es x).filter (q x)).map (f x))), some (.ref D)) :: T) H' → Q (.ref D) H') → te σ H Q := by
  subst hvs
  have hg : ∀ (sh : Shared) (H : Hp) (C : Addr) (cl : List (Str × Addr)) (fp : List Addr), PG (X.blk sh H scope (compEnvC scope cl C X.env) fp) tg (fun v σ H Q => ∃ x t t', (∀ z, ZG (bl X scope z) tg (own.map (·.2)) x t t') ∧ tG X.K (own.map (·.2)) x t t' v σ H Q) := fun sh H C cl fp =>
    ⟨fun pins sh' σ H' v u Q I r ⟨x, t, t', m, q⟩ => (m (sh, H, C, cl, fp)).run pins sh' σ H' v u Q I r q⟩
  have ht : ∀ (sh : Shared) (H : Hp) (C : Addr) (cl : List (Str × Addr)) (fp : List Addr), PTs (X.blk sh H scope (compEnvC scope cl C X.env) fp) ifs (fun σ H Q => ∃ t R, (∀ z, ZTs (bl X scope z) ifs t R) ∧ tT X.K t R σ H Q) := fun sh H C cl fp =>
    ⟨fun pins sh' σ H' Q I ⟨t, R, m, q⟩ => (m (sh, H, C, cl, fp)).run pins sh' σ H' Q I q⟩
  have hi1 : ∀ (sh : Shared) (H : Hp) (C : Addr) (cl : List (Str × Addr)) (fp : List Addr), PI (X.blk sh H scope (compEnvC scope cl C X.env) fp) tg1 iter1 (fun σ H R => ∃ t ys t', (∀ z, ZI (bl X scope z) tg1 iter1 t ys t') ∧ tI X.K t ys t' σ H R) := fun sh H C cl fp =>
    ⟨fun pins sh' σ H' R I ⟨t, ys, t', m, q⟩ => (m (sh, H, C, cl, fp)).run pins sh' σ H' R I q⟩
  have hg1 : ∀ (sh : Shared) (H : Hp) (C : Addr) (cl : List (Str × Addr)) (fp : List Addr), PG (X.blk sh H scope (compEnvC scope cl C X.env) fp) tg1 (fun v σ H Q => ∃ x t t', (∀ z, ZG (bl X scope z) tg1 vs1 x t t') ∧ tG X.K vs1 x t t' v σ H Q) := fun sh H C cl fp =>
    ⟨fun pins sh' σ H' v u Q I r ⟨x, t, t', m, q⟩ => (m (sh, H, C, cl, fp)).run pins sh' σ H' v u Q I r q⟩
  have ht1 : ∀ (sh : Shared) (H : Hp) (C : Addr) (cl : List (Str × Addr)) (fp : List Addr), PTs (X.blk sh H scope (compEnvC scope cl C X.env) fp) ifs1 (fun σ H Q => ∃ t R, (∀ z, ZTs (bl X scope z) ifs1 t R) ∧ tT X.K t R σ H Q) := fun sh H C cl fp =>
    ⟨fun pins sh' σ H' Q I ⟨t, R, m, q⟩ => (m (sh, H, C, cl, fp)).run pins sh' σ H' Q I q⟩
  have he : ∀ (sh : Shared) (H : Hp) (C : Addr) (cl : List (Str × Addr)) (fp : List Addr), PE (X.blk sh H scope (compEnvC scope cl C X.env) fp) elt (fun σ H Q => ∃ t y t', (∀ z, ZE (bl X scope z) elt t (.d y) t') ∧ tE X.K t (.d y) t' σ H Q) := fun sh H C cl fp =>
    ⟨fun pins sh' σ H' Q I ⟨t, y, t', m, q⟩ => (m (sh, H, C, cl, fp)).run pins sh' σ H' Q I q⟩
  refine ⟨_, ⟨pe_lc2 hc hN hi ok hsub hg ht hi1 hg1 ht1 he hs hs1, fun i y py spos hy hyl hsw => ps_setLc2 hc hN hy hyl hsw hi ok hsub hg ht hi1 hg1 ht1 he hs hs1⟩, fun T σ ρ H Q g fin => ?_⟩
  refine ⟨T, ρ, g, fun J T0 ρ1 H1 p1 g1 w D hD => ?_⟩
  -- what is told by the first i
  obtain ⟨F, hF⟩ : ∃ F : PyData → List PyData, F = fun x => ((es x).filter (q x)).map (f x) := ⟨_, rfl⟩
  obtain ⟨acc, hacc⟩ : ∃ acc : Nat → List PyData, acc = fun i => ((ds.take i).filter p).flatMap F := ⟨_, rfl⟩
  have lenF : ∀ x, (F x).length ≤ (es x).length := fun x => by rw [hF, List.length_map]; exact List.length_filter_le _ _
  have accN : ∀ {i : Nat} {x : PyData}, ds[i]? = some x → acc (i + 1) = acc i ++ (if p x = true then F x else []) := fun {i x} hx => by
    rw [hacc]
    show ((ds.take (i + 1)).filter p).flatMap F = _
    rw [List.take_add_one, hx, Option.toList, List.filter_append, List.flatMap_append]
    congr 1
    by_cases hp : p x = true
    · rw [if_pos hp, List.filter_cons_of_pos hp]; simp
    · rw [if_neg hp, List.filter_cons_of_neg hp]; simp
  have accL : ∀ i, i ≤ ds.length → (acc i).length ≤ ((ds.take i).flatMap es).length := fun i => by
    induction i with
    | zero => intro _; rw [hacc]; simp
    | succ i ih =>
      intro hi
      have hx : ds[i]? = some ds[i] := List.getElem?_eq_getElem hi
      have es1 : ([ds[i]] : List PyData).flatMap es = es ds[i] := by rw [List.flatMap_cons, List.flatMap_nil, List.append_nil]
      rw [accN hx, List.take_add_one, hx, Option.toList, List.flatMap_append, List.length_append, List.length_append, es1]
      have h1 := ih (by omega)
      have h2 := lenF ds[i]
      split
      · omega
      · rw [List.length_nil]; omega
  have gb := g1.blk (own.map (·.2))
  have gD : Sat X.K ⟨wipeE s1.e (own.map (·.2)), s1.R⟩ (wipe σ (own.map (·.2))) ρ1 ((IT.o (OL (acc 0)), some (.ref D)) :: (ES s1.e σ ++ (T0 ++ T))) (upd H1 D (.lst [])) := by
    obtain ⟨F', f'⟩ := gb.ok.fz
    have : acc 0 = [] := by rw [hacc]; simp
    rw [this]
    exact gb.of (f'.lstO (ds := []) (vs := []) .nil hD)
  refine ⟨fun i m H' => m = ds.length - i ∧ i ≤ ds.length ∧ ∃ ρ', ρ1 <+: ρ' ∧ Sat X.K ⟨wipeE s1.e (own.map (·.2)), s1.R⟩ (wipe σ (own.map (·.2))) ρ' ((IT.o (OL (acc i)), some (.ref D)) :: (ES s1.e σ ++ (T0 ++ T))) H', ⟨_, rfl, Nat.zero_le _, ρ1, pre_refl _, gD⟩, ?_⟩
  rintro i m H' ⟨rfl, hi', ρ', p', g'⟩
  have okw : OK X.K (T0 ++ ((IT.o (OL (acc i)), some (.ref D)) :: (ES s1.e σ ++ T) ++ (ES (wipeE s1.e (own.map (·.2))) (wipe σ (own.map (·.2))) ++ RS s1.R ρ'))) H' := by
    refine g'.ok.perm ?_
    show ([(IT.o (OL (acc i)), some (V.ref D))] ++ (ES s1.e σ ++ (T0 ++ T)) ++ (ES (wipeE s1.e (own.map (·.2))) (wipe σ (own.map (·.2))) ++ RS s1.R ρ')).Perm (T0 ++ ([(IT.o (OL (acc i)), some (V.ref D))] ++ (ES s1.e σ ++ T) ++ (ES (wipeE s1.e (own.map (·.2))) (wipe σ (own.map (·.2))) ++ RS s1.R ρ')))
    simp only [List.append_assoc]
    exact ((cas (ES s1.e σ) T0 _).append_left _).trans (cas _ _ _)
  obtain ⟨w1, w2⟩ := w _ H' okw
  by_cases hlt : i < ds.length
  · obtain ⟨go, yl⟩ := w1 i ds[i] (List.getElem?_eq_getElem hlt)
    have hx : ds[i]? = some ds[i] := List.getElem?_eq_getElem hlt
    generalize ds[i] = x at hx yl go
    obtain ⟨t', hG, hR, hT, hI⟩ := turn x (List.mem_of_getElem? hx)
    have an := accN hx
    refine .inr ⟨go, fun H3 => ∃ ρ', ρ1 <+: ρ' ∧ Sat X.K ⟨wipeE s1.e (own.map (·.2)), s1.R⟩ (wipe σ (own.map (·.2))) ρ' ((IT.o (OL (acc (i + 1))), some (.ref D)) :: (ES s1.e σ ++ (T0 ++ T))) H3,
      fun H3 ⟨a1, a2, a3⟩ => ⟨ds.length - (i + 1), by omega, rfl, hlt, a1, a2, a3⟩, fun v H4 y => ?_⟩
    have okv := yl v H4 y
    have g4 : Sat X.K ⟨wipeE s1.e (own.map (·.2)), s1.R⟩ (wipe σ (own.map (·.2))) ρ' ((IT.d x, some v) :: ((IT.o (OL (acc i)), some (.ref D)) :: (ES s1.e σ ++ (T0 ++ T)))) H4 := by
      refine ⟨g'.le, g'.lr, g'.al, okv.perm (List.Perm.cons _ ?_)⟩
      show (T0 ++ ([(IT.o (OL (acc i)), some (V.ref D))] ++ (ES s1.e σ ++ T) ++ (ES (wipeE s1.e (own.map (·.2))) (wipe σ (own.map (·.2))) ++ RS s1.R ρ'))).Perm ([(IT.o (OL (acc i)), some (V.ref D))] ++ (ES s1.e σ ++ (T0 ++ T)) ++ (ES (wipeE s1.e (own.map (·.2))) (wipe σ (own.map (·.2))) ++ RS s1.R ρ'))
      simp only [List.append_assoc]
      exact (cas _ _ _).trans ((cas T0 (ES s1.e σ) _).append_left _)
    refine ⟨x, _, t', hG, _, ρ', ⟨g4.le, g4.lr, g4.al, g4.ok⟩, fun σ2 o g5 => ⟨wipe_off o, ?_⟩⟩
    have back : ∀ {e2 : List SD} {ρ2 : List V} {l2 : List PyData} {H2 : Hp}, ρ' <+: ρ2 → Sat X.K ⟨e2, s1.R⟩ σ2 ρ2 ((IT.o (OL l2), some (.ref D)) :: (ES s1.e σ ++ (T0 ++ T))) H2 →
        Sat X.K ⟨wipeE s1.e (own.map (·.2)), s1.R⟩ (wipe σ (own.map (·.2))) ρ2 ((IT.o (OL l2), some (.ref D)) :: (ES s1.e σ ++ (T0 ++ T))) H2 := fun {e2 ρ2 l2 H2} p2 g2 => by
      have b := g1.unblk (A := [(IT.o (OL l2), some (.ref D))]) (p'.trans p2) g2
      exact (b.blk (own.map (·.2))).tperm List.perm_middle
    refine ⟨t', Is (p x) t', hT, _, ρ', g5, fun b t2 ρ2 H5 hr p2 g6 => ?_⟩
    obtain ⟨eb, et⟩ := hr
    subst et
    obtain ⟨e', R'⟩ := t2
    have hR : R' = s1.R := hR
    subst hR
    cases b with
    | false =>
      refine ⟨ρ2, p'.trans p2, ?_⟩
      rw [an, if_neg (by rw [← eb]; decide), List.append_nil]
      exact back p2 g6
    | true =>
      obtain ⟨hI0, hI1⟩ := hI eb.symm
      rw [if_pos eb.symm] at an
      show ∃ _, _
      refine ⟨⟨e', s1.R⟩, es x, ⟨e', s1.R⟩, hI0, _, ρ2, g6, fun J1 T1 ρ3 H6 p3 g7 wk1 => ?_⟩
      obtain ⟨inn, hinn⟩ : ∃ inn : Nat → List PyData, inn = fun j => (((es x).take j).filter (q x)).map (f x) := ⟨_, rfl⟩
      have innN : ∀ {j : Nat} {y : PyData}, (es x)[j]? = some y → inn (j + 1) = inn j ++ (if q x y = true then [f x y] else []) := fun {j y} hy => by
        rw [hinn]
        show (((es x).take (j + 1)).filter (q x)).map (f x) = _
        rw [List.take_add_one, hy, Option.toList, List.filter_append, List.map_append]
        congr 1
        by_cases hq : q x y = true
        · rw [if_pos hq, List.filter_cons_of_pos hq]; rfl
        · rw [if_neg hq, List.filter_cons_of_neg hq]; rfl
      have innL : ∀ j, (inn j).length ≤ j := fun j => by
        rw [hinn, List.length_map]
        refine Nat.le_trans (List.length_filter_le _ _) ?_
        rw [List.length_take]
        omega
      have room : ∀ j, j < (es x).length → (acc i ++ inn j).length < sizeLine := fun j hj => by
        have h1 := accL i (by omega)
        have h2 := innL j
        have h3 : ((ds.take (i + 1)).flatMap es).length ≤ (ds.flatMap es).length := by
          conv => rhs; rw [← List.take_append_drop (i + 1) ds]
          rw [List.flatMap_append, List.length_append]
          omega
        have es1 : ([x] : List PyData).flatMap es = es x := by rw [List.flatMap_cons, List.flatMap_nil, List.append_nil]
        rw [List.take_add_one, hx, Option.toList, List.flatMap_append, List.length_append, es1] at h3
        rw [List.length_append]
        omega
      -- the frame of the inner round
      have g7' : Sat X.K ⟨e', s1.R⟩ σ2 ρ3 (T1 ++ ((IT.o (OL (acc i)), some (.ref D)) :: (ES s1.e σ ++ (T0 ++ T)))) H6 := g7
      have g7b := g7'.blk vs1
      have g70 : Sat X.K ⟨wipeE e' vs1, s1.R⟩ (wipe σ2 vs1) ρ3 ((IT.o (OL (acc i ++ inn 0)), some (.ref D)) :: (ES e' σ2 ++ (T1 ++ (ES s1.e σ ++ (T0 ++ T))))) H6 := by
        have e0 : acc i ++ inn 0 = acc i := by rw [hinn]; simp
        rw [e0]
        refine g7b.tperm ?_
        show (ES e' σ2 ++ (T1 ++ ([(IT.o (OL (acc i)), some (V.ref D))] ++ (ES s1.e σ ++ (T0 ++ T))))).Perm ([(IT.o (OL (acc i)), some (V.ref D))] ++ (ES e' σ2 ++ (T1 ++ (ES s1.e σ ++ (T0 ++ T)))))
        exact ((cas _ _ _).append_left _).trans (cas _ _ _)
      refine ⟨fun j k H' => k = (es x).length - j ∧ j ≤ (es x).length ∧ ∃ ρ', ρ3 <+: ρ' ∧ Sat X.K ⟨wipeE e' vs1, s1.R⟩ (wipe σ2 vs1) ρ' ((IT.o (OL (acc i ++ inn j)), some (.ref D)) :: (ES e' σ2 ++ (T1 ++ (ES s1.e σ ++ (T0 ++ T))))) H', ⟨_, rfl, Nat.zero_le _, ρ3, pre_refl _, g70⟩, ?_⟩
      rintro j k H7 ⟨rfl, hj, ρ4, p4, g8⟩
      have ok8 : OK X.K (T1 ++ ((IT.o (OL (acc i ++ inn j)), some (.ref D)) :: (ES e' σ2 ++ (ES s1.e σ ++ (T0 ++ T))) ++ (ES (wipeE e' vs1) (wipe σ2 vs1) ++ RS s1.R ρ4))) H7 := by
        refine g8.ok.perm ?_
        show ([(IT.o (OL (acc i ++ inn j)), some (V.ref D))] ++ (ES e' σ2 ++ (T1 ++ (ES s1.e σ ++ (T0 ++ T)))) ++ (ES (wipeE e' vs1) (wipe σ2 vs1) ++ RS s1.R ρ4)).Perm (T1 ++ ([(IT.o (OL (acc i ++ inn j)), some (V.ref D))] ++ (ES e' σ2 ++ (ES s1.e σ ++ (T0 ++ T))) ++ (ES (wipeE e' vs1) (wipe σ2 vs1) ++ RS s1.R ρ4)))
        simp only [List.append_assoc]
        exact ((cas (ES e' σ2) T1 _).append_left _).trans (cas _ _ _)
      obtain ⟨u1, u2⟩ := wk1 _ H7 ok8
      by_cases hjl : j < (es x).length
      · obtain ⟨go1, yl1⟩ := u1 j (es x)[j] (List.getElem?_eq_getElem hjl)
        have hy : (es x)[j]? = some (es x)[j] := List.getElem?_eq_getElem hjl
        generalize (es x)[j] = yy at hy yl1 go1
        obtain ⟨t3, k1, k2, k3, k4⟩ := hI1 yy (List.mem_of_getElem? hy)
        have inN := innN hy
        refine .inr ⟨go1, fun H3 => ∃ ρ', ρ3 <+: ρ' ∧ Sat X.K ⟨wipeE e' vs1, s1.R⟩ (wipe σ2 vs1) ρ' ((IT.o (OL (acc i ++ inn (j + 1))), some (.ref D)) :: (ES e' σ2 ++ (T1 ++ (ES s1.e σ ++ (T0 ++ T))))) H3,
          fun H3 ⟨a1, a2, a3⟩ => ⟨(es x).length - (j + 1), by omega, rfl, hjl, a1, a2, a3⟩, fun v2 H8 y2 => ?_⟩
        have okv2 := yl1 v2 H8 y2
        have g9 : Sat X.K ⟨wipeE e' vs1, s1.R⟩ (wipe σ2 vs1) ρ4 ((IT.d yy, some v2) :: ((IT.o (OL (acc i ++ inn j)), some (.ref D)) :: (ES e' σ2 ++ (T1 ++ (ES s1.e σ ++ (T0 ++ T)))))) H8 := by
          refine ⟨g8.le, g8.lr, g8.al, okv2.perm (List.Perm.cons _ ?_)⟩
          show (T1 ++ ([(IT.o (OL (acc i ++ inn j)), some (V.ref D))] ++ (ES e' σ2 ++ (ES s1.e σ ++ (T0 ++ T))) ++ (ES (wipeE e' vs1) (wipe σ2 vs1) ++ RS s1.R ρ4))).Perm ([(IT.o (OL (acc i ++ inn j)), some (V.ref D))] ++ (ES e' σ2 ++ (T1 ++ (ES s1.e σ ++ (T0 ++ T)))) ++ (ES (wipeE e' vs1) (wipe σ2 vs1) ++ RS s1.R ρ4))
          simp only [List.append_assoc]
          exact (cas _ _ _).trans ((cas T1 (ES e' σ2) _).append_left _)
        refine ⟨yy, _, t3, k1, _, ρ4, g9, fun σ3 o3 ga => ⟨wipe_off o3, ?_⟩⟩
        have back1 : ∀ {e2 : List SD} {ρ5 : List V} {l2 : List PyData} {H2 : Hp}, ρ4 <+: ρ5 → Sat X.K ⟨e2, s1.R⟩ σ3 ρ5 ((IT.o (OL l2), some (.ref D)) :: (ES e' σ2 ++ (T1 ++ (ES s1.e σ ++ (T0 ++ T))))) H2 →
            Sat X.K ⟨wipeE e' vs1, s1.R⟩ (wipe σ2 vs1) ρ5 ((IT.o (OL l2), some (.ref D)) :: (ES e' σ2 ++ (T1 ++ (ES s1.e σ ++ (T0 ++ T))))) H2 := fun {e2 ρ5 l2 H2} p5 g2 => by
          have b := g7'.unblk (A := [(IT.o (OL l2), some (.ref D))]) (p4.trans p5) g2
          exact (b.blk vs1).tperm List.perm_middle
        obtain ⟨e3, R3⟩ := t3
        have k2 : R3 = s1.R := k2
        subst k2
        refine ⟨⟨e3, s1.R⟩, Is (q x yy) ⟨e3, s1.R⟩, k3, _, ρ4, ga, fun b2 t4 ρ5 H9 hr2 p5 gb => ?_⟩
        obtain ⟨eb2, et2⟩ := hr2
        subst et2
        cases b2 with
        | false =>
          refine ⟨ρ5, p4.trans p5, ?_⟩
          rw [inN, if_neg (by rw [← eb2]; decide), List.append_nil]
          exact back1 p5 gb
        | true =>
          rw [if_pos eb2.symm] at inN
          show ∃ _, _
          refine ⟨⟨e3, s1.R⟩, f x yy, ⟨e3, s1.R⟩, k4 eb2.symm, _, ρ5, gb, fun u ρ6 Ha p6 _ gc => ?_⟩
          have g8' : OK X.K ((IT.o (OL (acc i ++ inn j)), some (.ref D)) :: ((IT.d (f x yy), some u) :: (ES e' σ2 ++ (T1 ++ (ES s1.e σ ++ (T0 ++ T)))) ++ (ES e3 σ3 ++ RS s1.R ρ6))) Ha := gc.ok.perm (List.Perm.swap _ _ _)
          obtain ⟨F', f'⟩ := g8'.fz
          obtain ⟨pD, vs', e4, h1, h2, h3⟩ := f'.putL (ds' := acc i ++ inn j)
          cases e4
          obtain ⟨u', e5, hu⟩ := f'.at (x := f x yy) (v := some u) (List.mem_cons_of_mem _ List.mem_cons_self)
          cases e5
          refine ⟨vs', h1, by rw [dpsLen h2]; exact room j hjl, ρ6, (p4.trans p5).trans p6, back1 (e2 := e3) (p5.trans p6) ?_⟩
          have kk := h3 (acc i ++ inn (j + 1)) (vs' ++ [u]) (by rw [inN, ← List.append_assoc]; exact dpsApp h2 (.cons hu .nil))
          exact ⟨gc.le, gc.lr, gc.al, ((kk.perm (List.Perm.swap _ _ _)).tail)⟩
      · have e0 : j = (es x).length := by omega
        subst e0
        refine .inl ⟨u2, ρ4, ((p'.trans p2).trans p3).trans p4, ?_⟩
        have ei : inn (es x).length = F x := by rw [hinn, hF]; show (((es x).take _).filter (q x)).map (f x) = _; rw [List.take_length]
        rw [ei, ← an] at g8
        have b := g7'.unblk (A := [(IT.o (OL (acc (i + 1))), some (.ref D))]) p4 g8
        have b2 : Sat X.K ⟨e', s1.R⟩ σ2 ρ4 ((IT.o (OL (acc (i + 1))), some (.ref D)) :: (ES s1.e σ ++ (T0 ++ T))) H7 := by
          have b3 : Sat X.K ⟨e', s1.R⟩ σ2 ρ4 (T1 ++ ((IT.o (OL (acc (i + 1))), some (.ref D)) :: (ES s1.e σ ++ (T0 ++ T)))) H7 := b.tperm List.perm_middle.symm
          exact b3.tdrops
        exact back ((p2.trans p3).trans p4) b2
  · have e : i = ds.length := by omega
    subst e
    refine .inl ⟨w2, ?_⟩
    have b := g1.unblk (A := [(IT.o (OL (acc ds.length)), some (.ref D))]) p' g'
    have b2 : Sat X.K s1 σ ρ' ((IT.o (OL (acc ds.length)), some (.ref D)) :: (T0 ++ T)) H' := b
    have b3 : Sat X.K s1 σ ρ' (T0 ++ ((IT.o (OL (acc ds.length)), some (.ref D)) :: T)) H' := b2.tperm List.perm_middle.symm
    have ea : acc ds.length = (ds.filter p).flatMap fun x => ((es x).filter (q x)).map (f x) := by rw [hacc, hF]; show ((ds.take _).filter p).flatMap _ = _; rw [List.take_length]
    have b4 := b3.tdrops
    rw [ea] at b4
    exact fin ρ' D H' (p1.trans p') b4

theorem ze_lc2P {scope : Scope} {own : List (Str × Nat)} {vs vs1 : List Nat} (es : PyData → List PyData) (f : PyData → PyData → PyData) (p : PyData → Bool) (q : PyData → PyData → Bool) (hi : ZI X tg iter s ds s1)
    (turn : ∀ x, x ∈ ds → ∃ t', (∀ z, ZG (bl X scope z) tg vs x ⟨wipeE s1.e vs, s1.R⟩ t') ∧ t'.R = s1.R ∧ (∀ z, ZTs (bl X scope z) ifs t' (Is (p x) t')) ∧ (p x = true → (∀ z, ZI (bl X scope z) tg1 iter1 t' (es x) t') ∧
      ∀ y, y ∈ es x → ∃ t2, (∀ z, ZG (bl X scope z) tg1 vs1 y ⟨wipeE t'.e vs1, s1.R⟩ t2) ∧ t2.R = s1.R ∧ (∀ z, ZTs (bl X scope z) ifs1 t2 (Is (q x y) t2)) ∧ (q x y = true → ∀ z, ZE (bl X scope z) elt t2 (.d (f x y)) t2)))
    (hsz : (ds.flatMap es).length < sizeLine) (hN : X.N.Nodup) (ok : BlkOk X.N X.env.scope scope own) (hsub : ∀ i ∈ vs1, i ∈ vs := by decide) (hvs : own.map (·.2) = vs := by rfl) (hc : X.calm = true := by rfl) (hs : ∀ x, foldedSetIterable iter X.env x = pure x := by intro _; rfl) (hs1 : ∀ env x, foldedSetIterable iter1 env x = pure x := by intro _ _; rfl) :
    ZE X (.ListComp elt [⟨tg, iter, ifs, 0⟩, ⟨tg1, iter1, ifs1, 0⟩] scope pos) s (.d (.list ((ds.filter p).flatMap fun x => ((es x).filter (q x)).map (f x)))) s1 := by
  obtain ⟨te, ⟨h, _⟩, run⟩ := lc2_run (pos := pos) hvs hsub es f p q turn hsz hi hN hc ok hs hs1
  refine PE.imp h fun σ H Q ⟨T, ρ, g, fin⟩ => run T σ ρ H Q g fun ρ' D' H' pp g' => ?_
  obtain ⟨F, fz⟩ := g'.ok.fz
  exact fin _ ρ' H' pp trivial ⟨g'.le, g'.lr, g'.al, fz.freeze⟩
theorem zss_setLc2P {scope : Scope} {own : List (Str × Nat)} {vs vs1 : List Nat} {y : Str} {py spos : Pos} {rest : List Stmt} {P : Po} (i : Nat) (es : PyData → List PyData) (f : PyData → PyData → PyData) (p : PyData → Bool) (q : PyData → PyData → Bool) (hi : ZI X tg iter s ds s1)
    (turn : ∀ x, x ∈ ds → ∃ t', (∀ z, ZG (bl X scope z) tg vs x ⟨wipeE s1.e vs, s1.R⟩ t') ∧ t'.R = s1.R ∧ (∀ z, ZTs (bl X scope z) ifs t' (Is (p x) t')) ∧ (p x = true → (∀ z, ZI (bl X scope z) tg1 iter1 t' (es x) t') ∧
      ∀ y, y ∈ es x → ∃ t2, (∀ z, ZG (bl X scope z) tg1 vs1 y ⟨wipeE t'.e vs1, s1.R⟩ t2) ∧ t2.R = s1.R ∧ (∀ z, ZTs (bl X scope z) ifs1 t2 (Is (q x y) t2)) ∧ (q x y = true → ∀ z, ZE (bl X scope z) elt t2 (.d (f x y)) t2)))
    (hsz : (ds.flatMap es).length < sizeLine) (hN : X.N.Nodup) (ok : BlkOk X.N X.env.scope scope own) (hil : i < s1.e.length) (k : ZSs X rest ⟨s1.e.set i (.d (.list ((ds.filter p).flatMap fun x => ((es x).filter (q x)).map (f x)))), s1.R⟩ P) (hsub : ∀ i ∈ vs1, i ∈ vs := by decide) (hvs : own.map (·.2) = vs := by rfl) (hc : X.calm = true := by rfl) (hs : ∀ x, foldedSetIterable iter X.env x = pure x := by intro _; rfl) (hs1 : ∀ env x, foldedSetIterable iter1 env x = pure x := by intro _ _; rfl)
    (hy : X.N[i]? = some y := by rfl) (hyl : X.env.scope.names.lookup y = some .local := by rfl) (hsw : swapsWith (.ListComp elt [⟨tg, iter, ifs, 0⟩, ⟨tg1, iter1, ifs1, 0⟩] scope pos) (some (.Name y py)) spos.line X.env = pure true := by rfl) :
    ZSs X (.Assign [.Name y py] (.ListComp elt [⟨tg, iter, ifs, 0⟩, ⟨tg1, iter1, ifs1, 0⟩] scope pos) spos :: rest) s P := by
  obtain ⟨te, ⟨_, h⟩, run⟩ := lc2_run (pos := pos) hvs hsub es f p q turn hsz hi hN hc ok hs hs1
  refine zss_seq (M := fun t => t = ⟨s1.e.set i (.d (.list ((ds.filter p).flatMap fun x => ((es x).filter (q x)).map (f x)))), s1.R⟩) (PS.imp (h i y py spos hy hyl hsw) fun D σ H ⟨t, T, ρ, e1, hb, g, qq⟩ => ?_) fun t e => by subst e; exact k
  subst e1
  refine run T σ ρ H _ g fun ρ' D' H' pp g' => ?_
  obtain ⟨F, fz⟩ := g'.ok.fz
  have g2 : Sat X.K s1 σ ρ' ((itOf (.d (.list ((ds.filter p).flatMap fun x => ((es x).filter (q x)).map (f x)))), some (.ref D')) :: T) H' := ⟨g'.le, g'.lr, g'.al, fz.freeze⟩
  exact qq.nx _ (σ.set i (some (.ref D'))) ρ' H' rfl ((List.take_prefix _ _).trans pp) (Sat.put (s := s1) (r := .d (.list _)) hil trivial g2)
end
end Z

namespace Z
open PySem L2 PyProof.Rows

/-! ### list + list, xs += ys -/
section
open AutoSeq1 MeetsSeq MeetsSeq2
theorem add_any (l : Addr) (its : Array Value) (n : Nat) (b : Addr) (its2 : Array Value) (n2 : Nat) (dd d1 : Option Addr) (sl s1 : Array (Option Value)) (h2 : its.size + its2.size ≤ sizeLine) :
    PySem.Meets (Builtin.«list.__add__» ⟨[.ref l, .ref b], []⟩) (fun _ R s => s.heap.get? l = some { cls := .type "list", dict := d1, data := .seq its n, slots := s1 } ∧ s.heap.get? b = some { cls := .type "list", dict := dd, data := .seq its2 n2, slots := sl } ∧
      R (.ok (.ret (Value.ref s.heap.objs.size))) { s with heap := s.heap.push { cls := Value.type "list", data := Data.seq (its ++ its2) }, toks := s.toks }) :=
  PySem.Meets.of_wp fun prog w A R s h => by
    obtain ⟨hp, g, d, tk, os⟩ := s
    obtain ⟨hl, hb, h⟩ := h
    have hc0 := h2
    have f1 := AutoSeq1.idx_int
    have f2 := AutoSeq1.sub_tuple_tuple
    have f3 := AutoSeq1.sub_list_list
    have f4 := AutoSeq1.sub_tuple_list
    have f5 := AutoSeq1.sub_list_tuple
    wp_walk using wpAny_loadPart' hl, wpAny_loadPart' hb
    exact ⟨_, rfl, h⟩
theorem iadd_any (l : Addr) (its : Array Value) (n : Nat) (b : Addr) (its2 : Array Value) (n2 : Nat) (dd : Option Addr) (sl : Array (Option Value)) (h0 : ¬(!its.isEmpty && Builtin.List.listTooLong (its.size + its2.size)) = true) (h1 : its.size ≤ sizeLine) (h2 : its.size + its2.size ≤ sizeLine + 1) :
    PySem.Meets (Builtin.«list.__iadd__» ⟨[.ref l, .ref b], []⟩) (fun _ R s => s.heap.get? l = some { cls := .type "list", dict := none, data := .seq its n, slots := #[] } ∧ s.heap.get? b = some { cls := .type "list", dict := dd, data := .seq its2 n2, slots := sl } ∧
      R (.ok (.ret (Value.ref l))) { s with heap := s.heap.update l (Obj.mapSeq fun x => x ++ its2), toks := s.toks }) :=
  PySem.Meets.of_wp fun prog w A R s h => by
    obtain ⟨hp, g, d, tk, os⟩ := s
    obtain ⟨hl, hb, h⟩ := h
    have f1 := AutoSeq1.idx_int
    have f2 := AutoSeq1.sub_tuple_tuple
    have f3 := AutoSeq1.sub_list_list
    have f4 := AutoSeq1.sub_tuple_list
    have f5 := AutoSeq1.sub_list_tuple
    have hz' : (its ++ its2).size ≤ sizeLine + 1 := by rw [Array.size_append]; exact h2
    wp_walk using (wpAny_updateSeq hl rfl (hz := h1) (_hz' := hz')), wpAny_loadPart' hl, wpAny_loadPart' hb
    exact ⟨_, rfl, h⟩
theorem tup_mul1 (l : Addr) (items : Array Value) (n : Nat) (dd : Option Addr) (sl : Array (Option Value)) (x : Int) (u : Tok) (c0 : (decide (x < -(2 ^ 63)) || decide (x ≥ 2 ^ 63)) = false) (c1 : (items.isEmpty || x == 1) = true) :
    PySem.Meets (Builtin.«tuple.__mul__» ⟨[.ref l, .int x u], []⟩) (fun _ R s => s.heap.get? l = some { cls := .type "tuple", dict := dd, data := .seq items n, slots := sl } ∧
      R (.ok (.ret (Value.ref l))) { s with heap := s.heap, toks := s.toks }) :=
  PySem.Meets.of_wp fun prog w A R s h => by
    obtain ⟨hp, g, d, tk, os⟩ := s
    obtain ⟨hl, h⟩ := h
    have f1 := AutoSeq1.idx_int
    wp_walk using wpAny_loadPart' hl
    repeat (first
      | (refine wpAny_ite_false (decide_eq_false (by rw [c0]; exact Bool.false_ne_true)) ?_; wp_walk using wpAny_loadPart' hl)
      | (refine wpAny_ite_true (decide_eq_true (by rw [c1])) ?_; wp_walk using wpAny_loadPart' hl))
    exact ⟨_, rfl, h⟩
end
section
variable {X : Cx} {e a b c : Expr} {es : List Expr} {st : Stmt} {rest body : List Stmt} {s s' s1 s2 s3 : S} {r r1 : SD} {rs : List SD} {pos p p2 q : Pos} {P : Po} {x y : PyData} {i j k : Int} {o n : Nat} {ds es' : List PyData}
def rCatQ (K : PySem.W.Frag) : R2 := fun x y H Q => ∃ l b xs zs, x = V.ref l ∧ y = V.ref b ∧ SqL K H l xs ∧ SqL K H b zs ∧ xs.length + zs.length ≤ sizeLine ∧ ∀ p, H p = none → Q (.ref p) (upd H p (.lst (xs ++ zs)))
theorem op_catQ : OpR X (binaryOp .Add) (rCatQ X.K) := by
  intro pins s σ H x y v u Q I rx ry h
  obtain ⟨l, b, xs, zs, rfl, rfl, hH, hB, hz, q⟩ := h
  cases rx
  cases ry
  obtain ⟨its, r, ⟨o1, n, e1, c1, d1, f1⟩, z⟩ := I.list hH
  obtain ⟨its2, r2, ⟨o2, n2, e2, c2, d2, f2⟩, z2⟩ := I.list hB
  have h1 := r.length
  have h2 := r2.length
  obtain ⟨oc, od, dt, sl⟩ := o1
  obtain ⟨oc', od', dt', sl'⟩ := o2
  simp only at c1 c2 f1 f2
  subst c1 c2 f1 f2
  refine concat_meets ⟨_, e1, rfl⟩ ⟨_, e2, rfl⟩ noFill_list_add seq_list_add F.slot_list_add F.entry_list_add (F.args_list_add_2 _ _) (add_any l its.toArray n b its2.toArray n2 od' od sl' sl (by rw [List.size_toArray, List.size_toArray]; omega)) ⟨e1, e2, ?_⟩
  have ea : its.toArray ++ its2.toArray = (its ++ its2).toArray := by simp
  rw [ea]
  exact ⟨.ref _, _, I.lnew (t' := s.toks) (r.append r2) (by rw [List.length_append]; omega), rfl, q _ I.fresh⟩
theorem bi_catL {K : PySem.W.Frag} {ds es : List PyData} (hz : ds.length + es.length ≤ sizeLine) : Bi K (rCatQ K) s (.d (.list ds)) (.d (.list es)) (.d (.list (ds ++ es))) s := fun u w T σ ρ H Q g va vb k => by
  obtain ⟨F, f⟩ := g.ok.fz
  obtain ⟨u', e1, h1⟩ := f.at (x := .list ds) (v := some u) (List.mem_append_left _ (List.mem_cons_of_mem _ List.mem_cons_self))
  obtain ⟨w', e2, h2⟩ := f.at (x := .list es) (v := some w) (List.mem_append_left _ List.mem_cons_self)
  cases e1
  cases e2
  cases h1 with
  | lst hs ha =>
    cases h2 with
    | lst ht hb => exact ⟨_, _, _, _, rfl, rfl, f.ext.l hs, f.ext.l ht, by rw [dpsLen ha, dpsLen hb]; exact hz, fun p hp => k _ ρ _ (pre_refl ρ) trivial (g.out2 (f.lstD (dpsApp ha hb) hp))⟩
theorem ze_catL {ds es : List PyData} (hz : ds.length + es.length ≤ sizeLine) (ha : ZE X a s (.d (.list ds)) s1) (hb : ZE X b s1 (.d (.list es)) s2) : ZE X (.BinOp a .Add b pos) s (.d (.list (ds ++ es))) s2 := ze_op op_catQ ha hb (bi_catL hz)
def ipExtQ (K : PySem.W.Frag) : TIp := fun x y H Q => ∃ l b xs zs, x = V.ref l ∧ y = V.ref b ∧ H l = some (.lst xs) ∧ SqL K H b zs ∧ xs.length + zs.length ≤ sizeLine ∧ Q (.ref l) (upd H l (.lst (xs ++ zs)))
theorem ip_extQ : PIp X .Add (ipExtQ X.K) := by
  intro pins s σ H x y v u Q I rx ry h
  obtain ⟨l, b, xs, zs, rfl, rfl, hl, hb, hz, q⟩ := h
  cases rx
  cases ry
  obtain ⟨z, its, n, r, h1, e⟩ := I.lstM hl
  obtain ⟨its2, r2, ⟨ob, n2, e2, e3, e4, e5⟩, z2⟩ := I.list hb
  obtain ⟨oc, od, dt, sl⟩ := ob
  simp only at e3 e4 e5
  subst e3 e5
  have h2 := r2.length
  have hsz : its.toArray.size + its2.toArray.size ≤ sizeLine := by rw [List.size_toArray, List.size_toArray]; omega
  refine iadd_road ⟨_, e, rfl⟩ ⟨_, e2, rfl⟩ (call_meets F.slot_list_iadd ⟨_, e, rfl⟩ F.entry_list_iadd (F.args_list_iadd_2 _ _)
    (iadd_any l its.toArray n b its2.toArray n2 od sl (by rw [notLongL hsz, Bool.and_false]; exact Bool.false_ne_true) (by rw [List.size_toArray]; omega) (by omega)) ⟨e, e2, ?_⟩)
  refine ⟨.ref l, _, I.lset (its' := its ++ its2) (t' := s.toks) hl e (by simp) (r.append r2) ?_, rfl, q⟩
  rw [List.length_append]
  omega
/-- xs += ys, xs of its own at o, ys a datum's list -/
theorem zss_augL {nm : Str} {p' : Pos} (i : Nat) (hu : s1.e[i]? = some (.r o)) (hu0 : s.e[i]? = some (.r o)) (h : ZE X e s (.d (.list es')) s1) (ho : s1.R[o]? = some (OL ds)) (hz : ds.length + es'.length ≤ sizeLine) (k : ZSs X rest ⟨s1.e, s1.R.set o (OL (ds ++ es'))⟩ P) (hN : X.N.Nodup) (hx : X.N[i]? = some nm := by rfl) (hl : Loc X.env.scope nm := by first | exact .inl rfl | exact .inr rfl)
    (hf : X.fn nm = true ∨ X.env.scope.names.lookup nm = some .local := by first | exact .inl rfl | exact .inr rfl) : ZSs X (.AugAssign (.Name nm p') .Add e pos :: rest) s P :=
  zss_seq (M := fun t => t = ⟨s1.e, s1.R.set o (OL (ds ++ es'))⟩) (PS.imp (ps_aug hN hx hl h ip_extQ hf) fun D σ H ⟨t, T, ρ, e1, hb, g, q⟩ => by
    subst e1
    obtain ⟨v0, h0, hv0⟩ := g.al i o hu0
    refine ⟨v0, h0, T, ρ, g, fun w ρ' H' pp vr g' => ?_⟩
    obtain ⟨u, e2, ok, back⟩ := g'.obj ho
    have eu : u = v0 := by
      obtain ⟨t, rfl⟩ := pp
      rw [List.getElem?_append_left (List.getElem?_eq_some_iff.mp hv0).1, hv0] at e2
      exact (Option.some.inj e2).symm
    subst eu
    obtain ⟨F, fz⟩ := ok.fz
    obtain ⟨q0, ws, e5, e6, e7, e8⟩ := fz.putL (ds' := ds)
    cases e5
    obtain ⟨u', e9, hd⟩ := fz.at (x := .list es') (v := some w) (List.mem_cons_of_mem _ List.mem_cons_self)
    cases e9
    cases hd with
    | @lst b' zs _ hs ha =>
      refine ⟨_, _, _, _, rfl, rfl, e6, fz.ext.l hs, by rw [dpsLen e7, dpsLen ha]; exact hz, ?_⟩
      have gg := back _ _ (e8 _ _ (dpsApp e7 ha))
      obtain ⟨u2, e10, e11⟩ := g'.al i o hu
      have : σ.set i (some (V.ref q0)) = σ := by
        have e12 : u2 = V.ref q0 := Option.some.inj (e11.symm.trans e2)
        subst e12
        exact set_self e10
      show D.nx (σ.set i (some (V.ref q0))) _
      rw [this]
      exact q.nx _ σ ρ' _ rfl ((List.take_prefix _ _).trans pp) gg.tdrop) fun t e => by subst e; exact k
/-- str(i) -/
theorem ze_strI (hi : i.natAbs.log2 < 1920) (ha : ZA X [a] s [.d (.int i)] s1) (hm : X.mg "str" = none) (c : Cl X "str" a [] pos := by exact ⟨rfl, rfl, rfl⟩) : ZE X (.Call (.Name "str" p) [a] [] pos) s (.d (.str (toString i))) s1 :=
  ze_callT call_str_int (by decide +kernel) ha hm c (ca1 fun u T σ ρ H Q g vr k => by
    have e1 := see_int (i := i) (v := u) g List.mem_cons_self
    subst e1
    exact ⟨i, rfl, hi, k _ ρ H (pre_refl ρ) trivial (g.tdrop.tflat (show flat (.str _) (.str _) from rfl))⟩)
/-- t * k, k at least 1 -/
def rRepQ (K : PySem.W.Frag) : R2 := fun x y H Q => ∃ l k xs, x = V.ref l ∧ y = V.int k ∧ SqT K H l xs ∧ xs ≠ [] ∧ 1 ≤ k ∧ k ≤ 1000 ∧ xs.length ≤ 1000 ∧ (k = 1 → Q (.ref l) H) ∧ (2 ≤ k → ∀ p, H p = none → Q (.ref p) (upd H p (.tup (List.replicate k.toNat xs).flatten)))
theorem op_repQ : OpR X (binaryOp .Mult) (rRepQ X.K) := by
  intro pins s σ H x y v u Q I rx ry h
  obtain ⟨l, k, xs, rfl, rfl, hT, hne, h1, h2, hz, q1, q2⟩ := h
  by_cases hk : k = 1
  · subst hk
    cases rx
    obtain ⟨t, rfl⟩ := ry
    obtain ⟨its, r, ⟨⟨cls, dd, data, sl⟩, ho, hc, n, hd⟩, hs⟩ := I.tuple hT
    simp only at hc hd
    subst hc hd
    exact wpAny_binaryOp_repeat_ref (T := "tuple") (U := "int") (by decide) ⟨_, ho, rfl⟩ (fun s' => typeIs_int s' 1 t) noFill_tuple_mul F.fills_int_mul F.slot_int_rmul repeat_tuple F.slot_int_index.lookup
      (call_meets F.slot_int_rmul (typeIs_int s 1 t) F.entry_int_rmul (F.args_int_rmul_2 _ _) (int_rmul_tuple 1 t l its.toArray n dd sl)
        ⟨ho, rfl, ⟨_, ho, rfl⟩, call_meets F.slot_tuple_mul ⟨_, ho, rfl⟩ F.entry_tuple_mul (F.args_tuple_mul_2 _ _) (tup_mul1 l its.toArray n dd sl 1 t rfl (by simp)) ⟨ho, ⟨.ref l, H, I.tok s.toks, rfl, q1 rfl⟩⟩⟩)
  · exact op_repT pins s σ H _ _ v u Q I rx ry ⟨l, k, xs, rfl, rfl, hT, hne, by omega, h2, hz, q2 (by omega)⟩
theorem dpsRep {K : PySem.W.Frag} {F : Hp} {vs : List V} {ds : List PyData} (h : DpAll K F vs ds) : ∀ n : Nat, DpAll K F (List.replicate n vs).flatten (List.replicate n ds).flatten
  | 0 => .nil
  | n + 1 => by
    rw [List.replicate_succ, List.replicate_succ, List.flatten_cons, List.flatten_cons]
    exact dpsApp h (dpsRep h n)
theorem ze_repT {ds : List PyData} {k : Int} (hne : ds ≠ []) (h1 : 1 ≤ k) (h2 : k ≤ 1000) (hz : ds.length ≤ 1000) (ha : ZE X a s (.d (.tuple ds)) s1) (hb : ZE X b s1 (.d (.int k)) s2) : ZE X (.BinOp a .Mult b pos) s (.d (.tuple (List.replicate k.toNat ds).flatten)) s2 :=
  ze_op op_repQ ha hb fun u w T σ ρ H Q g va vb kk => by
    have e1 := see_int (i := k) (v := w) g List.mem_cons_self
    subst e1
    obtain ⟨F, p, vs, e1, hs, hd, f⟩ := g.seeT (List.mem_cons_of_mem _ List.mem_cons_self) (.d _)
    subst e1
    refine ⟨_, k, vs, rfl, rfl, hs, fun e => hne ?_, h1, h2, by rw [dpsLen hd]; exact hz, fun e => ?_, fun _ p hp => kk _ ρ _ (pre_refl ρ) trivial (g.out2 (f.tup (dpsRep hd _) hp))⟩
    · subst e; cases hd; rfl
    · subst e
      refine kk _ ρ H (pre_refl ρ) trivial ?_
      have e0 : (List.replicate (1 : Int).toNat ds).flatten = ds := by simp
      rw [e0]
      exact g.tdrop

/-! ### memos whose answers change -/
theorem storedH_mem2 {xs : List DEn} {d : PyData} {b : Addr} {u : Value} {e : DEn} (h : e ∈ storedH xs d b u) : (e ∈ xs ∧ e.1 ≠ d) ∨ e = (d, b, u) ∨ ∃ z ∈ xs, z.1 = d ∧ e = (d, z.2.1, u) := by
  unfold storedH at h
  split at h
  · obtain ⟨z, hz, e1⟩ := List.mem_map.mp h
    unfold putAt at e1
    split at e1
    · rename_i hd
      subst e1
      exact .inr (.inr ⟨z, hz, hd, by rw [hd]⟩)
    · rename_i hd
      subst e1
      exact .inl ⟨hz, hd⟩
  · rename_i hn
    rcases List.mem_append.mp h with h | h
    · refine .inl ⟨h, fun e => hn ?_⟩
      unfold atKey
      rw [Option.isSome_map, List.find?_isSome]
      exact ⟨_, h, by simpa using e⟩
    · exact .inr (.inl (by simpa using h))
theorem Sat.memoC {K : PySem.W.Frag} {pr : Program} {w : World} {f f' : PyData → PyData → Prop} {σ : L2.St} {ρ : List V} {T : List En} {H : Hp} {o : Nat} {v : V} {O : Own} (g : Sat K s σ ρ T H) (ho : s.R[o]? = some O) (hO : OLe O (OM pr w f)) (hv : ρ[o]? = some v) :
    ∃ F p xs, v = .ref p ∧ H p = some (DxO pr w p xs) ∧ Ext F H ∧ (∀ {x u}, (IT.d x, some u) ∈ T → Dp K F u x) ∧ (∀ e ∈ xs, KyD K F e.2.1 e.1 ∧ ∃ vv dv, RelV vv e.2.2 ∧ Dp K F vv dv ∧ f e.1 dv) ∧
      ∀ d b u vv dv, (∀ k x, f k x → k ≠ d → f' k x) → KyD K F b d → RelV vv u → Dp K F vv dv → f' d dv → Sat K ⟨s.e, s.R.set o (OMk pr w f' d)⟩ σ ρ T (upd H p (DxO pr w p (storedH xs d b u))) := by
  obtain ⟨v', e2, ok, bk⟩ := g.obj ho
  have ev : v' = v := Option.some.inj (e2.symm.trans hv)
  subst ev
  obtain ⟨F, L, e1, g1⟩ := ok
  cases L with
  | nil => simp at e1
  | cons z L =>
    obtain ⟨z1, fp⟩ := z
    simp at e1
    obtain ⟨e3, e4⟩ := e1
    subst e3
    obtain ⟨u, e5, h0⟩ := g1.ent _ List.mem_cons_self
    have e5' : v' = u := Option.some.inj e5
    subst e5'
    obtain ⟨p, xs, h1, h2, h3, h4⟩ := hO _ _ _ _ _ h0
    have nd := g1.nd
    have ow := g1.own
    unfold fpsOf at nd ow
    rw [List.flatMap_cons] at nd ow
    have h2' : fp = [p] := h2
    subst h2'
    have fz : Fz K F (T ++ (ES s.e σ ++ (RS s.R ρ).set o (IT.un, some v'))) H := ⟨L, e4, g1.tail⟩
    refine ⟨F, p, xs, h1, h3, g1.ext, fun {x u} m => ?_, h4, fun d b u vv dv hff hb hu hd hf => bk _ _ ⟨F, (((IT.o (OMk pr w f' d), some v'), [p]) :: L), by rw [List.map_cons, e4], ?_⟩⟩
    · obtain ⟨u', e6, hd⟩ := fz.at (List.mem_append_left _ m)
      cases e6
      exact hd
    · refine g1.change (H' := upd H p (DxO pr w p (storedH xs d b u))) (Q := OMk pr w f' d) ⟨p, _, h1, rfl, upd_same, storedH_has, fun e he => ?_⟩ (fun a o' ha e => ?_) fun a ha => ?_
      · rcases storedH_mem2 he with ⟨q, qn⟩ | q | ⟨z, hz, q1, q2⟩
        · obtain ⟨a1, vv, dv, a2, a3, a4⟩ := h4 e q
          exact ⟨a1, vv, dv, a2, a3, hff _ _ a4 qn⟩
        · subst q
          exact ⟨hb, vv, dv, hu, hd, hf⟩
        · subst q2
          have := (h4 z hz).1
          rw [q1] at this
          exact ⟨this, vv, dv, hu, hd, hf⟩
      · rw [upd_ne (by simpa using ha)]; exact e
      · have e : a = p := by simpa using ha
        subst e
        exact ⟨_, upd_same⟩
theorem zss_memoC {tpos : Pos} {U : List PyData} {f f' : PyData → PyData → Prop} {O : Own} (he : ZE X e s (.d x) s1) (ha : ZE X a s1 (.r o) s2) (hb : ZE X b s2 (.d (.tuple ds)) s3) (ho : s3.R[o]? = some O) (hO : OLe O (OM X.prog X.w f)) (hff : ∀ k v, f k v → k ≠ .tuple ds → f' k v) (hf : f' (.tuple ds) x) (hU : ∀ k v, f k v → k ∈ U) (hz : U.length < sizeLine) (k1 : kOK (.tuple ds) = true) (k2 : dep (.tuple ds) ≤ 8) (hu : X.A.units + 20 < cLine)
    (k : ZSs X rest ⟨s3.e, s3.R.set o (OMk X.prog X.w f' (.tuple ds))⟩ P)
    (hsub : ∀ v, assign (.Subscript a b tpos) X.env v = (do
      let ov ← holding [v] (eval a X.env)
      let iv ← holding [v, ov] (eval b X.env)
      standAt tpos
      holding [v, ov, iv] (setItem ov iv v)
      release [v, ov, iv] []) := by intro _; rfl)
    (hs : swapsWithSole [.Subscript a b tpos] e pos.line X.env = pure false := by rfl) (hw : swappedStores [.Subscript a b tpos] e X.env = pure none := by rfl) (h1 : (assignEach [.Subscript a b tpos] X.env).map (·.2) = [assign (.Subscript a b tpos) X.env] := by rfl) :
    ZSs X (.Assign [.Subscript a b tpos] e pos :: rest) s P := by
  refine zss_seq (M := fun t => t = ⟨s3.e, s3.R.set o (OMk X.prog X.w f' (.tuple ds))⟩) (PS.imp (ps_asg he (pg_sub ha hb (put_X hu) hsub) hs hw h1) fun D σ H ⟨t, T, ρ, e1, hb0, g, q⟩ => ?_) fun t e => by subst e; exact k
  subst e1
  refine ⟨T, ρ, g, fun v ρ1 H1 p1 vr1 g1 => ⟨_, ρ1, g1, fun u ρ2 H2 p2 vr2 g2 => ⟨_, ρ2, g2, fun w ρ3 H3 p3 vr3 g3 => ?_⟩⟩⟩
  obtain ⟨F, p, xs, e1, hp, ex, dp, hx, put⟩ := g3.memoC (f' := f') ho hO (VR.mono (r := .r o) vr2 p3)
  subst e1
  obtain ⟨b', e2, hk⟩ := kyd (dp (x := .tuple ds) (u := w) List.mem_cons_self) k1 k2
  subst e2
  have hv : Dp X.K F v x := dp (List.mem_cons_of_mem _ (List.mem_cons_of_mem _ List.mem_cons_self))
  refine ⟨p, b', xs, _, rfl, rfl, hp, fun e he => (hx e he).1.up ex, hk.up ex, ⟨U, hz, fun e he => let ⟨_, _, _, _, _, h⟩ := hx e he; hU _ _ h⟩, fun val rv => q.nx _ σ ρ3 _ rfl ((List.take_prefix _ _).trans ((p1.trans p2).trans p3)) (put _ b' val v x hff hk rv hv hf).tdrop.tdrop.tdrop⟩
end
end Z

namespace Z
open PySem L2 PyProof.Rows

/-! ### dicts of answers, with the keys that are there -/
section
variable {X : Cx} {e a b c : Expr} {es : List Expr} {st : Stmt} {rest body : List Stmt} {s s' s1 s2 s3 : S} {r : SD} {rs : List SD} {pos p : Pos} {P : Po} {ds : List PyData} {x y : PyData} {f f' : PyData → PyData → Prop} {D D' : PyData → Prop} {o : Nat}
theorem ZE.wkO {O Q : Own} (h : ZE X e s r s1) (hj : s1.R[o]? = some O) (hq : OLe O Q) : ZE X e s r ⟨s1.e, s1.R.set o Q⟩ :=
  PE.imp h fun σ H Q' ⟨T, ρ, g, q⟩ => ⟨T, ρ, g, fun v ρ' H' pp vr g' => q v ρ' H' pp vr (g'.wkO hj hq)⟩
/-- a dict of answers: each told answer is right, each key of D is there -/
def OMs (pr : Program) (w : World) (f : PyData → PyData → Prop) (D : PyData → Prop) : Own where
  holds := fun K F H v fp => ∃ p xs, v = .ref p ∧ fp = [p] ∧ H p = some (DxO pr w p xs) ∧ (∀ d, D d → (atKey xs d).isSome = true) ∧ ∀ e ∈ xs, KyD K F e.2.1 e.1 ∧ ∃ vv dv, RelV vv e.2.2 ∧ Dp K F vv dv ∧ f e.1 dv
  stay := fun ⟨p, xs, e1, e2, e3, e0, e4⟩ e k => ⟨p, xs, e1, e2, k p (by rw [e2]; simp) _ e3, e0, fun z hz => let ⟨⟨a1, a2, a3⟩, vv, dv, a4, a5, a6⟩ := e4 z hz; ⟨⟨dpUp e _ _ a1, a2, a3⟩, vv, dv, a4, dpUp e _ _ a5, a6⟩⟩
theorem OMs.le {pr : Program} {w : World} (h1 : ∀ k v, f k v → f' k v) (h2 : ∀ d, D' d → D d) : OLe (OMs pr w f D) (OMs pr w f' D') := fun K F H v fp ⟨p, xs, e1, e2, e3, e0, e4⟩ => ⟨p, xs, e1, e2, e3, fun d hd => e0 d (h2 d hd), fun z hz => let ⟨a1, vv, dv, a4, a5, a6⟩ := e4 z hz; ⟨a1, vv, dv, a4, a5, h1 _ _ a6⟩⟩
theorem ze_newS (f : PyData → PyData → Prop) : ZE X (.Dict [] [] pos) s (.r s.R.length) ⟨s.e, s.R ++ [OMs X.prog X.w f fun _ => False]⟩ :=
  PE.imp pe_newX fun σ H Q ⟨T, ρ, g, k⟩ => fun p hp => by
    refine k _ (ρ ++ [.ref p]) _ (List.prefix_append _ _) g.newVR (Sat.tun ?_)
    obtain ⟨F, f1⟩ := g.ok.fz
    exact Sat.push (f1.newO hp ⟨p, [], rfl, rfl, upd_same, fun _ h => h.elim, fun e he => by simp at he⟩) g.le g.lr g.al
theorem storedH_keep {xs : List DEn} {d d' : PyData} {b : Addr} {u : Value} (h : (atKey xs d').isSome = true) : (atKey (storedH xs d b u) d').isSome = true := by
  unfold storedH
  unfold atKey at h ⊢
  rw [Option.isSome_map, List.find?_isSome] at h
  obtain ⟨z, hz, e⟩ := h
  have e1 : z.1 = d' := of_decide_eq_true e
  split
  · rw [Option.isSome_map, List.find?_isSome]
    refine ⟨putAt d u z, List.mem_map.mpr ⟨z, hz, rfl⟩, ?_⟩
    unfold putAt
    split
    · rename_i hd
      exact decide_eq_true e1
    · exact e
  · rw [Option.isSome_map, List.find?_isSome]
    exact ⟨z, List.mem_append_left _ hz, e⟩
theorem Sat.memoS {K : PySem.W.Frag} {pr : Program} {w : World} {σ : L2.St} {ρ : List V} {T : List En} {H : Hp} {o : Nat} {v : V} (g : Sat K s σ ρ T H) (ho : s.R[o]? = some (OMs pr w f D)) (hv : ρ[o]? = some v) :
    ∃ F p xs, v = .ref p ∧ H p = some (DxO pr w p xs) ∧ Ext F H ∧ (∀ {x u}, (IT.d x, some u) ∈ T → Dp K F u x) ∧ (∀ d, D d → (atKey xs d).isSome = true) ∧ (∀ e ∈ xs, KyD K F e.2.1 e.1 ∧ ∃ vv dv, RelV vv e.2.2 ∧ Dp K F vv dv ∧ f e.1 dv) ∧
      (∀ d, (atKey xs d).isSome = true → Sat K ⟨s.e, s.R.set o (OMs pr w f fun x => x = d ∨ D x)⟩ σ ρ T H) ∧ (∀ {x u}, Dp K F u x → Sat K s σ ρ ((IT.d x, some u) :: T) H) ∧
      ∀ (f' : PyData → PyData → Prop) d b u vv dv, (∀ k x, f k x → k ≠ d → f' k x) → KyD K F b d → RelV vv u → Dp K F vv dv → f' d dv → Sat K ⟨s.e, s.R.set o (OMs pr w f' fun x => x = d ∨ D x)⟩ σ ρ T (upd H p (DxO pr w p (storedH xs d b u))) := by
  obtain ⟨v', e2, ok, bk⟩ := g.obj ho
  have ev : v' = v := Option.some.inj (e2.symm.trans hv)
  subst ev
  obtain ⟨F, L, e1, g1⟩ := ok
  cases L with
  | nil => simp at e1
  | cons z L =>
    obtain ⟨z1, fp⟩ := z
    simp at e1
    obtain ⟨e3, e4⟩ := e1
    subst e3
    obtain ⟨u, e5, h0⟩ := g1.ent _ List.mem_cons_self
    have e5' : v' = u := Option.some.inj e5
    subst e5'
    obtain ⟨p, xs, h1, h2, h3, hD, h4⟩ := h0
    have nd := g1.nd
    have ow := g1.own
    unfold fpsOf at nd ow
    rw [List.flatMap_cons] at nd ow
    obtain ⟨n1, n2, n3⟩ := List.nodup_append.mp nd
    have h2' : fp = [p] := h2
    subst h2'
    have fz : Fz K F (T ++ (ES s.e σ ++ (RS s.R ρ).set o (IT.un, some v'))) H := ⟨L, e4, g1.tail⟩
    refine ⟨F, p, xs, h1, h3, g1.ext, fun {x u} m => ?_, hD, h4, fun d hd => bk H _ ⟨F, (((IT.o (OMs pr w f fun x => x = d ∨ D x), some v'), [p]) :: L), by rw [List.map_cons, e4], ?_⟩, fun {x u} hx => ?_, fun f' d b u vv dv hff hb hu hd hf => bk _ _ ⟨F, (((IT.o (OMs pr w f' fun x => x = d ∨ D x), some v'), [p]) :: L), by rw [List.map_cons, e4], ?_⟩⟩
    · obtain ⟨u', e6, hd⟩ := fz.at (List.mem_append_left _ m)
      cases e6
      exact hd
    · exact g1.tail.oCons ⟨p, xs, h1, rfl, h3, fun d' hd' => hd'.elim (fun e => by rw [e]; exact hd) (hD d'), h4⟩ n1 (fun a ha hb => n3 a ha a hb rfl) fun a ha => ow a (List.mem_append_left _ ha)
    · have whole : Fz K F ((IT.o (OMs pr w f D), some v') :: (T ++ (ES s.e σ ++ (RS s.R ρ).set o (IT.un, some v')))) H := ⟨(((IT.o (OMs pr w f D), some v'), [p]) :: L), by rw [List.map_cons, e4], g1⟩
      have a1 := (whole.add hx).ok
      have a2 : OK K ((IT.o (OMs pr w f D), some v') :: (((IT.d x, some u) :: T) ++ (ES s.e σ ++ (RS s.R ρ).set o (IT.un, some v')))) H := a1.perm (List.Perm.swap _ _ _)
      have b := ZE.frz.back2 (T2 := (IT.d x, some u) :: T) g ho hv a2
      rw [set_self ho] at b
      exact b
    · refine g1.change (H' := upd H p (DxO pr w p (storedH xs d b u))) (Q := OMs pr w f' fun x => x = d ∨ D x) ⟨p, _, h1, rfl, upd_same, fun d' hd' => hd'.elim (fun e => by rw [e]; exact storedH_has) (fun q => storedH_keep (hD d' q)), fun e he => ?_⟩ (fun a o' ha e => ?_) fun a ha => ?_
      · rcases storedH_mem2 he with ⟨q, qn⟩ | q | ⟨z, hz, q1, q2⟩
        · obtain ⟨a1, vv, dv, a2, a3, a4⟩ := h4 e q
          exact ⟨a1, vv, dv, a2, a3, hff _ _ a4 qn⟩
        · subst q
          exact ⟨hb, vv, dv, hu, hd, hf⟩
        · subst q2
          have := (h4 z hz).1
          rw [q1] at this
          exact ⟨this, vv, dv, hu, hd, hf⟩
      · rw [upd_ne (by simpa using ha)]; exact e
      · have e : a = p := by simpa using ha
        subst e
        exact ⟨_, upd_same⟩
theorem zt_inS (ho : s2.R[o]? = some (OMs X.prog X.w f D)) (ha : ZE X a s (.d (.tuple ds)) s1) (hb : ZE X b s1 (.r o) s2) (k1 : kOK (.tuple ds) = true) (k2 : dep (.tuple ds) ≤ 8) (hu : X.A.units + 20 < cLine) (hm : behindInMarks .In b = false := by rfl) :
    ZT X (.Compare a [.In] [b] pos) s (fun k t => t = if k = true then ⟨s2.e, s2.R.set o (OMs X.prog X.w f fun x => x = .tuple ds ∨ D x)⟩ else s2) := by
  refine PT.imp (pt_cmpR (op_inX hu) ha hb hm) fun σ H Q ⟨T, ρ, g, q⟩ => ⟨T, ρ, g, fun u ρ1 H1 p1 vr1 g1 => ⟨_, ρ1, g1, fun w ρ2 H2 p2 vr2 g2 => ?_⟩⟩
  obtain ⟨F, p, xs, e1, hp, ex, dp, _, hx, kn, _, _⟩ := g2.memoS ho vr2
  subst e1
  obtain ⟨b', e2, hk⟩ := kyd (dp (x := .tuple ds) (u := u) (List.mem_cons_of_mem _ List.mem_cons_self)) k1 k2
  subst e2
  refine ⟨p, b', xs, _, rfl, rfl, hp, fun e he => (hx e he).1.up ex, hk.up ex, _, rfl, ?_⟩
  rw [if_neg Bool.false_ne_true]
  cases hc : (atKey xs (PyData.tuple ds)).isSome with
  | true => exact q true _ ρ2 H2 (if_pos rfl).symm (p1.trans p2) (kn _ hc).tdrop.tdrop
  | false => exact q false _ ρ2 H2 (if_neg Bool.false_ne_true).symm (p1.trans p2) g2.tdrop.tdrop
theorem zt_ninS (ho : s2.R[o]? = some (OMs X.prog X.w f D)) (ha : ZE X a s (.d (.tuple ds)) s1) (hb : ZE X b s1 (.r o) s2) (k1 : kOK (.tuple ds) = true) (k2 : dep (.tuple ds) ≤ 8) (hu : X.A.units + 20 < cLine) (hm : behindInMarks .NotIn b = false := by rfl) :
    ZT X (.Compare a [.NotIn] [b] pos) s (fun k t => t = if k = true then s2 else ⟨s2.e, s2.R.set o (OMs X.prog X.w f fun x => x = .tuple ds ∨ D x)⟩) := by
  refine PT.imp (pt_cmpR (op_ninX hu) ha hb hm) fun σ H Q ⟨T, ρ, g, q⟩ => ⟨T, ρ, g, fun u ρ1 H1 p1 vr1 g1 => ⟨_, ρ1, g1, fun w ρ2 H2 p2 vr2 g2 => ?_⟩⟩
  obtain ⟨F, p, xs, e1, hp, ex, dp, _, hx, kn, _, _⟩ := g2.memoS ho vr2
  subst e1
  obtain ⟨b', e2, hk⟩ := kyd (dp (x := .tuple ds) (u := u) (List.mem_cons_of_mem _ List.mem_cons_self)) k1 k2
  subst e2
  refine ⟨p, b', xs, _, rfl, rfl, hp, fun e he => (hx e he).1.up ex, hk.up ex, _, rfl, ?_⟩
  rw [if_pos rfl]
  cases hc : (atKey xs (PyData.tuple ds)).isSome with
  | true => exact q false _ ρ2 H2 (if_neg Bool.false_ne_true).symm (p1.trans p2) (kn _ hc).tdrop.tdrop
  | false => exact q true _ ρ2 H2 (if_pos rfl).symm (p1.trans p2) g2.tdrop.tdrop
/-- memo[key], the key there -/
theorem ze_memoS (ho : s2.R[o]? = some (OMs X.prog X.w f D)) (hD : D (.tuple ds)) (hf : ∀ y, f (.tuple ds) y → y = x) (ha : ZE X a s (.r o) s1) (hb : ZE X b s1 (.d (.tuple ds)) s2) (k1 : kOK (.tuple ds) = true) (k2 : dep (.tuple ds) ≤ 8) (hu : X.A.units + 20 < cLine) (hs : PlainIx b := by intro _ _; rfl) :
    ZE X (.Subscript a b pos) s (.d x) s2 := by
  refine PE.imp (pe_ix (ix_X hu) ha hb hs) fun σ H Q ⟨T, ρ, g, q⟩ => ⟨T, ρ, g, fun u ρ1 H1 p1 vr1 g1 => ⟨_, ρ1, g1, fun w ρ2 H2 p2 vr2 g2 => ?_⟩⟩
  obtain ⟨F, p, xs, e1, hp, ex, dp, kD, hx, _, top, _⟩ := g2.memoS ho (VR.mono (r := .r o) vr1 p2)
  subst e1
  obtain ⟨b', e2, hk⟩ := kyd (dp (x := .tuple ds) (u := w) List.mem_cons_self) k1 k2
  subst e2
  obtain ⟨⟨c, val⟩, hc⟩ := Option.isSome_iff_exists.mp (kD _ hD)
  have hm : (PyData.tuple ds, c, val) ∈ xs := by
    unfold atKey at hc
    obtain ⟨z, hz, e⟩ := Option.map_eq_some_iff.mp hc
    have h1 := List.mem_of_find?_eq_some hz
    have h0 := List.find?_some (p := fun x : DEn => decide (x.fst = PyData.tuple ds)) hz
    have h2 : z.1 = PyData.tuple ds := of_decide_eq_true h0
    rw [← h2, show (z.1, c, val) = z by rw [← e]]
    exact h1
  obtain ⟨_, vv, dv, r1, r2, r3⟩ := hx _ hm
  have ed : dv = x := hf dv r3
  subst ed
  refine ⟨p, b', xs, _, c, val, vv, rfl, rfl, hp, fun e he => (hx e he).1.up ex, hk.up ex, hc, r1, q vv ρ2 H2 (p1.trans p2) trivial ?_⟩
  have b2 := top r2
  exact (b2.tperm ((List.perm_append_comm (l₁ := [(IT.d dv, some vv)]) (l₂ := [(IT.d (.tuple ds), some (.ref b')), (itOf (SD.r o), some (V.ref p))])).append_right T)).tdrops (T1 := [(IT.d (.tuple ds), some (.ref b')), (itOf (SD.r o), some (V.ref p))])
/-- memo[key] = value -/
theorem zss_memoS {tpos : Pos} {U : List PyData} (he : ZE X e s (.d x) s1) (ha : ZE X a s1 (.r o) s2) (hb : ZE X b s2 (.d (.tuple ds)) s3) (ho : s3.R[o]? = some (OMs X.prog X.w f D)) (f' : PyData → PyData → Prop) (hff : ∀ k v, f k v → k ≠ .tuple ds → f' k v) (hf : f' (.tuple ds) x) (hU : ∀ k v, f k v → k ∈ U) (hz : U.length < sizeLine) (k1 : kOK (.tuple ds) = true) (k2 : dep (.tuple ds) ≤ 8) (hu : X.A.units + 20 < cLine)
    (k : ZSs X rest ⟨s3.e, s3.R.set o (OMs X.prog X.w f' fun x => x = .tuple ds ∨ D x)⟩ P)
    (hsub : ∀ v, assign (.Subscript a b tpos) X.env v = (do
      let ov ← holding [v] (eval a X.env)
      let iv ← holding [v, ov] (eval b X.env)
      standAt tpos
      holding [v, ov, iv] (setItem ov iv v)
      release [v, ov, iv] []) := by intro _; rfl)
    (hs : swapsWithSole [.Subscript a b tpos] e pos.line X.env = pure false := by rfl) (hw : swappedStores [.Subscript a b tpos] e X.env = pure none := by rfl) (h1 : (assignEach [.Subscript a b tpos] X.env).map (·.2) = [assign (.Subscript a b tpos) X.env] := by rfl) :
    ZSs X (.Assign [.Subscript a b tpos] e pos :: rest) s P := by
  refine zss_seq (M := fun t => t = ⟨s3.e, s3.R.set o (OMs X.prog X.w f' fun x => x = .tuple ds ∨ D x)⟩) (PS.imp (ps_asg he (pg_sub ha hb (put_X hu) hsub) hs hw h1) fun DD σ H ⟨t, T, ρ, e1, hb0, g, q⟩ => ?_) fun t e => by subst e; exact k
  subst e1
  refine ⟨T, ρ, g, fun v ρ1 H1 p1 vr1 g1 => ⟨_, ρ1, g1, fun u ρ2 H2 p2 vr2 g2 => ⟨_, ρ2, g2, fun w ρ3 H3 p3 vr3 g3 => ?_⟩⟩⟩
  obtain ⟨F, p, xs, e1, hp, ex, dp, _, hx, _, _, put⟩ := g3.memoS ho (VR.mono (r := .r o) vr2 p3)
  subst e1
  obtain ⟨b', e2, hk⟩ := kyd (dp (x := .tuple ds) (u := w) List.mem_cons_self) k1 k2
  subst e2
  have hv : Dp X.K F v x := dp (List.mem_cons_of_mem _ (List.mem_cons_of_mem _ List.mem_cons_self))
  refine ⟨p, b', xs, _, rfl, rfl, hp, fun e he => (hx e he).1.up ex, hk.up ex, ⟨U, hz, fun e he => let ⟨_, _, _, _, _, h⟩ := hx e he; hU _ _ h⟩, fun val rv => q.nx _ σ ρ3 _ rfl ((List.take_prefix _ _).trans ((p1.trans p2).trans p3)) (put f' _ b' val v x hff hk rv hv hf).tdrop.tdrop.tdrop⟩
end
end Z

namespace K66
open PySem L2 PyProof.Rows Z
def topS (i : Nat) : Stmt := PySem.Challenge.pw_cantmove_k66_whole_bars.main.body.getD i (.Pass ⟨0, 0, 0, 0⟩)
abbrev s_is_number : Stmt := topS 1
theorem sc_is_number : FnScope ["value", "least", "most"] ["value", "least", "most"] (defScope s_is_number) := ⟨rfl, rfl, rfl, by decide +kernel, rfl, by decide +kernel, by decide +kernel⟩
abbrev s_is_bar : Stmt := topS 5
theorem sc_is_bar : FnScope ["value", "length", "k"] ["value"] (defScope s_is_bar) := ⟨rfl, rfl, rfl, by decide +kernel, rfl, by decide +kernel, by decide +kernel⟩
abbrev s_bitten : Stmt := topS 6
theorem sc_bitten : FnScope ["bar", "i", "j", "rows", "length"] ["bar", "i", "j"] (defScope s_bitten) := ⟨rfl, rfl, rfl, by decide +kernel, rfl, by decide +kernel, by decide +kernel⟩
abbrev s_bites_of : Stmt := topS 7
theorem sc_bites_of : FnScope ["bar", "i", "j"] ["bar"] (defScope s_bites_of) := ⟨rfl, rfl, rfl, by decide +kernel, rfl, by decide +kernel, by decide +kernel⟩
abbrev s_known_lost : Stmt := topS 8
theorem sc_known_lost : FnScope ["bar", "known", "i", "j"] ["bar", "known"] (defScope s_known_lost) := ⟨rfl, rfl, rfl, by decide +kernel, rfl, by decide +kernel, by decide +kernel⟩
abbrev s_is_lost_bar : Stmt := topS 9
theorem sc_is_lost_bar : FnScope ["bar"] ["bar"] (defScope s_is_lost_bar) := ⟨rfl, rfl, rfl, by decide +kernel, rfl, by decide +kernel, by decide +kernel⟩
abbrev s_winning_bites : Stmt := topS 10
theorem sc_winning_bites : FnScope ["bar", "known", "i", "j"] ["bar"] (defScope s_winning_bites) := ⟨rfl, rfl, rfl, by decide +kernel, rfl, by decide +kernel, by decide +kernel⟩
abbrev s_bars_to : Stmt := topS 11
theorem sc_bars_to : FnScope ["m", "n", "found", "longest", "_", "bar", "k"] ["m", "n"] (defScope s_bars_to) := ⟨rfl, rfl, rfl, by decide +kernel, rfl, by decide +kernel, by decide +kernel⟩
abbrev s_lost_bars : Stmt := topS 12
theorem sc_lost_bars : FnScope ["m", "n", "known", "bar"] ["m", "n"] (defScope s_lost_bars) := ⟨rfl, rfl, rfl, by decide +kernel, rfl, by decide +kernel, by decide +kernel⟩
abbrev s__law_box : Stmt := topS 14
theorem sc__law_box : FnScope ["script"] ["script"] (defScope s__law_box) := ⟨rfl, rfl, rfl, by decide +kernel, rfl, by decide +kernel, by decide +kernel⟩
abbrev s__law_load : Stmt := topS 15
theorem sc__law_load : FnScope ["box", "cells", "cell", "size", "first", "second"] ["box"] (defScope s__law_load) := ⟨rfl, rfl, rfl, by decide +kernel, rfl, by decide +kernel, by decide +kernel⟩
abbrev s__law_draw : Stmt := topS 16
theorem sc__law_draw : FnScope ["box", "many", "digit"] ["box", "many"] (defScope s__law_draw) := ⟨rfl, rfl, rfl, by decide +kernel, rfl, by decide +kernel, by decide +kernel⟩
abbrev s__law_same : Stmt := topS 17
theorem sc__law_same : FnScope ["a", "b", "k"] ["a", "b"] (defScope s__law_same) := ⟨rfl, rfl, rfl, by decide +kernel, rfl, by decide +kernel, by decide +kernel⟩
abbrev s__law_bent : Stmt := topS 18
theorem sc__law_bent : FnScope ["box", "value", "at", "pick"] ["box", "value"] (defScope s__law_bent) := ⟨rfl, rfl, rfl, by decide +kernel, rfl, by decide +kernel, by decide +kernel⟩
abbrev s__law_bite : Stmt := topS 19
theorem sc__law_bite : FnScope ["bar", "i", "j", "rows", "k", "stay", "x"] ["bar", "i", "j"] (defScope s__law_bite) := ⟨rfl, rfl, rfl, by decide +kernel, rfl, by decide +kernel, by decide +kernel⟩
abbrev s__law_lost : Stmt := topS 20
theorem sc__law_lost : FnScope ["bar", "met", "i", "j"] ["bar", "met"] (defScope s__law_lost) := ⟨rfl, rfl, rfl, by decide +kernel, rfl, by decide +kernel, by decide +kernel⟩
abbrev s__law_is_bar : Stmt := topS 21
theorem sc__law_is_bar : FnScope ["value", "k"] ["value"] (defScope s__law_is_bar) := ⟨rfl, rfl, rfl, by decide +kernel, rfl, by decide +kernel, by decide +kernel⟩
abbrev s__law_bar : Stmt := topS 22
theorem sc__law_bar : FnScope ["box", "rows", "width", "found", "most", "step"] ["box", "rows", "width"] (defScope s__law_bar) := ⟨rfl, rfl, rfl, by decide +kernel, rfl, by decide +kernel, by decide +kernel⟩
abbrev s__law_all : Stmt := topS 23
theorem sc__law_all : FnScope ["m", "n", "found", "rows", "step", "more", "row", "k"] ["m", "n"] (defScope s__law_all) := ⟨rfl, rfl, rfl, by decide +kernel, rfl, by decide +kernel, by decide +kernel⟩
abbrev s_law : Stmt := topS 24
theorem sc_law : FnScope ["script", "box", "met", "turn", "bar", "wins", "i", "j", "rows", "step", "value", "m", "n", "a", "b", "k", "size"] ["script"] (defScope s_law) := ⟨rfl, rfl, rfl, by decide +kernel, rfl, by decide +kernel, by decide +kernel⟩

end K66

namespace K66
open PySem L2 PyProof.Rows Z
section
variable {P : Program} {w : World} {K : PySem.W.Frag} {mg : Str → Option Value} {base : Heap}
theorem c_load (D : Dfn K mg "_law_load" s__law_load ["box"]) (m1 : mg "len" = none) (m2 : mg "int" = none) :
    Cal P w K mg base 1 "_law_load" (preOf aBx BOK) (relOf aBx BOK rLoad oLoad) := by
  refine zfunS D sc__law_load (fun _ => rfl) (fun x y _ _ e => by
    have e1 : OBox x = OBox y := by simpa [aBx] using e
    have := obox_inj K e1
    subst this
    exact ⟨rfl, rfl⟩) fun f cdv Ar outer s H E b hy hr => ?_
  obtain ⟨hx, ⟨y1, y2⟩, hl⟩ := hy
  have fin : ∀ (cells : List Int) (x y : Int) (r1 r2 : SD), 0 ≤ y → y < 2 ^ 31 → loadB b = finB cells x y → ZSs (cxOf CX0 P w K mg base ["box", "cells", "cell", "size", "first", "second"] "_law_load" (defScope s__law_load) f cdv Ar outer s H E).nox ((defBody s__law_load).drop 2) ⟨[.r 0, .un, r1, r2, .un, .un], [OBox ⟨cells, x, y⟩]⟩ (poS 1 (rLoad b) (oLoad b)) := by
    intro cells x y r1 r2 y1 y2 hf
    have mu : ∀ {i j : Int}, 0 ≤ i → i < 2147483648 → CMul i j := fun h1 h2 => .inl ⟨by omega, by omega⟩
    refine zss_set 4 (ze_mod (by decide) (ze_intI (za_cons (ze_add (ze_mul (mu y1 y2) (ze_ixO rfl (ix_box2 (b := ⟨cells, x, y⟩)) (flI _) (ze_var 0 rfl) ze_int) ze_int) ze_int) za_nil) m2) ze_int) (lt_of rfl) ?_ sc__law_load.nd
    refine zss_set 5 (ze_mod (by decide) (ze_intI (za_cons (ze_add (ze_mul (mu (by omega) (by omega)) (ze_var 4 rfl) ze_int) ze_int) za_nil) m2) ze_int) (lt_of rfl) ?_ sc__law_load.nd
    refine zss_putO (put_box2 (b := ⟨cells, x, y⟩)) (ze_mod (by decide) (ze_intI (za_cons (ze_add (ze_mul (mu (by omega) (by omega)) (ze_var 5 rfl) ze_int) ze_int) za_nil) m2) ze_int) (ze_var 0 rfl) ze_int rfl (fun h => by cases h; rfl) ?_
    refine zss_ret (ze_add (ze_add (ze_mul (mu (by omega) (by omega)) (ze_var 4 rfl) ze_int) (ze_mul (mu (by omega) (by omega)) (ze_var 5 rfl) ze_int)) (ze_ixO rfl (ix_box2 (b := ⟨cells, x, _⟩)) (flI _) (ze_var 0 rfl) ze_int)) ?_
    refine ⟨?_, ?_⟩
    · show rLoad b = _
      unfold rLoad
      rw [hf]
      rfl
    · show _ = oLoad b
      unfold oLoad
      rw [hf]
      rfl
  refine zss_open (o := 0) rfl fun p c => ?_
  refine zss_set 1 (ze_ixR (n := 1) rfl (ix_oa (vs := [.ref c, .int b.x, .int b.y]) rfl) rfl oa_is (ze_var 0 rfl) ze_int) (lt_of rfl) ?_ sc__law_load.nd
  obtain ⟨cs, x, y⟩ := b
  cases cs with
  | nil =>
    refine zss_ifI (k := false) (M := fun t => t = _) (ZT.imp (zt_gt (ze_lenO rfl len_oa (za_cons (ze_var 1 rfl) za_nil) m1) ze_int) fun b t ⟨e1, e2⟩ => ⟨by rw [e1]; rfl, e2⟩) (fun h => by cases h) (fun _ => zss_nil rfl) fun t e => ?_
    subst e
    exact zss_close (b := ⟨[], x, y⟩) (o := 0) (e' := [.r 0, .un, .un, .un, .un, .un]) (R := [_]) rfl rfl (Nat.le_refl _) ⟨.inl rfl, .inr rfl, .inl rfl, .inl rfl, .inl rfl, .inl rfl, trivial⟩ (by simp [low]) (fin [] x y .un .un y1 y2 rfl)
  | cons z r =>
    refine zss_ifI (k := true) (M := fun t => ∃ r1 r2 y', 0 ≤ y' ∧ y' < 2 ^ 31 ∧ loadB ⟨z :: r, x, y⟩ = finB r x y' ∧ t = ⟨[.r 0, .un, r1, r2, .un, .un], [OBox ⟨r, x, y'⟩]⟩) (ZT.imp (zt_gt (ze_lenO rfl len_oa (za_cons (ze_var 1 rfl) za_nil) m1) ze_int) fun b t ⟨e1, e2⟩ => ⟨by rw [e1]; simp, e2⟩) (fun h => ?_) (fun h => by cases h) fun t e => ?_
    · refine zss_set 2 (ze_intI (za_cons (ze_popO rfl pop_oa (flI z) (ze_var 1 rfl) (za_cons ze_int za_nil) (fun K F H v fp _ h => let ⟨a1, a2, a3⟩ := h; ⟨_, _, a1, a3⟩) rfl) za_nil) m2) (lt_of rfl) ?_ sc__law_load.nd
      have mu : ∀ {i j : Int}, 0 ≤ i → i < 2147483648 → CMul i j := fun h1 h2 => .inl ⟨by omega, by omega⟩
      refine zss_set 3 (r := .d (.int (cellB z))) (ze_iteI (zt_ge (ze_var 2 rfl) ze_int) (fun _ => ze_mul (.inl ⟨by decide, by decide⟩) ze_int (ze_var 2 rfl)) fun _ => ze_sub (ze_mul (.inl ⟨by decide, by decide⟩) (ze_neg ze_int) (ze_var 2 rfl)) ze_int) (lt_of rfl) ?_ sc__law_load.nd
      refine zss_close (b := ⟨r, x, y⟩) (o := 0) (e' := [.r 0, .un, .d (.int z), .d (.int (cellB z)), .un, .un]) (R := [_]) rfl rfl (Nat.le_refl _) ⟨.inl rfl, .inr rfl, .inl rfl, .inl rfl, .inl rfl, .inl rfl, trivial⟩ (by simp [low]) ?_
      have hp := cell_pos z
      refine zss_ifRet (zt_ge (ze_var 3 rfl) ze_int) (fun hk => ?_) fun hk => ?_
      · refine zss_ret (ze_var 3 rfl) ⟨?_, ?_⟩
        · show rLoad _ = _
          unfold rLoad loadB
          simp only [hk, if_true]
        · show _ = oLoad _
          unfold oLoad loadB
          simp only [hk, if_true]
          rfl
      · refine zss_putO (put_box2 (b := ⟨r, x, y⟩)) (ze_mod (by decide) (ze_intI (za_cons (ze_add (ze_add (ze_mul (mu y1 y2) (ze_ixO rfl (ix_box2 (b := ⟨r, x, y⟩)) (flI _) (ze_var 0 rfl) ze_int) ze_int) (ze_mul (.inl ⟨by omega, by simp at hk; omega⟩) (ze_var 3 rfl) ze_int)) ze_int) za_nil) m2) ze_int) (ze_var 0 rfl) ze_int rfl (fun h => by cases h; rfl) ?_
        refine zss_nil ⟨_, _, _, ?_, ?_, ?_, rfl⟩
        · omega
        · omega
        · unfold loadB
          simp only [hk, Bool.false_eq_true, if_false]
    · obtain ⟨r1, r2, y', h1, h2, h3, h4⟩ := e
      subst h4
      exact fin r x y' r1 r2 h1 h2 h3
end
end K66

namespace K66
open PySem L2 PyProof.Rows Z
section
variable {P : Program} {w : World} {K : PySem.W.Frag} {mg : Str → Option Value} {base : Heap}
theorem c_draw (D : Dfn K mg "_law_draw" s__law_draw ["box", "many"]) (cl : Cal P w K mg base 1 "_law_load" (preOf aBx BOK) (relOf aBx BOK rLoad oLoad)) (m2 : mg "int" = none) :
    Cal P w K mg base 2 "_law_draw" (preOf aDr okDr) (relOf aDr okDr rDraw oDraw) := by
  refine zfunS D sc__law_draw (fun _ => rfl) (fun x y _ _ e => by
    obtain ⟨x1, x2⟩ := x
    obtain ⟨y1, y2⟩ := y
    have e0 : OBox x1 = OBox y1 ∧ x2 = y2 := by simpa [aDr] using e
    obtain ⟨e1, e2⟩ := e0
    have := obox_inj K e1
    subst this e2
    exact ⟨rfl, rfl⟩) fun f cdv Ar outer s H E b hy hr => ?_
  obtain ⟨b, m⟩ := b
  obtain ⟨hb, hm⟩ := hy
  refine zss_ifI (k := decide (b.x < m)) (M := fun t => t = ⟨[.r 0, .d (.int m), .un], [OBox (if b.x < m then ⟨(loadB b).2.cells, (loadB b).1, (loadB b).2.y⟩ else b)]⟩) (zt_lt (ze_ixO rfl (ix_box1 (b := b)) (flI _) (ze_var 0 rfl) ze_int) (ze_var 1 rfl)) (fun h => ?_) (fun h => ?_) fun t e => ?_
  · have h' : b.x < m := of_decide_eq_true h
    rw [if_pos h']
    exact zss_putO (put_box1 (b := (loadB b).2)) (ze_callS1 b cl (za_cons (ze_var 0 rfl) za_nil) hb rfl rfl rfl hr) (ze_var 0 rfl) ze_int rfl (fun h => by cases h; rfl) (zss_nil rfl)
  · have h' : ¬ b.x < m := of_decide_eq_false h
    rw [if_neg h']
    exact zss_nil rfl
  · subst e
    generalize hB : (if b.x < m then (⟨(loadB b).2.cells, (loadB b).1, (loadB b).2.y⟩ : Bx) else b) = B
    refine zss_set 2 (ze_mod hm.1 (ze_intI (za_cons (ze_ixO rfl (ix_box1 (b := B)) (flI _) (ze_var 0 rfl) ze_int) za_nil) m2) (ze_var 1 rfl)) (lt_of rfl) ?_ sc__law_draw.nd
    refine zss_putO (put_box1 (b := B)) (ze_divW (show CDivW B.x m from hm) (ze_ixO rfl (ix_box1 (b := B)) (flI _) (ze_var 0 rfl) ze_int) (ze_var 1 rfl)) (ze_var 0 rfl) ze_int rfl (fun h => by cases h; rfl) ?_
    refine zss_ret (ze_var 2 rfl) ⟨?_, ?_⟩
    · show IT.d (.int (drawB b m).1) = _
      unfold drawB
      rw [hB]
    · show _ = [OBox (drawB b m).2]
      unfold drawB
      rw [hB]
      rfl
theorem c_box (D : Dfn K mg "_law_box" s__law_box ["script"]) (m1 : mg "len" = none) (m2 : mg "list" = none) :
    Cal P w K mg base 1 "_law_box" (preOf aSc0 (fun ns => ns.length ≤ 63)) (relOf aSc0 (fun ns => ns.length ≤ 63) (fun ns => .o (OBox (box0 ns))) (fun _ => [])) := by
  refine zfunS D sc__law_box (fun _ => rfl) (fun x y _ _ e => by
    have e1 : x.map PyData.int = y.map PyData.int := by simpa [aSc0] using e
    have : x = y := (List.map_inj_right (fun x y e => by cases e; rfl)).mp e1
    subst this
    exact ⟨rfl, rfl⟩) fun f cdv Ar outer s H E ns hy hr => ?_
  refine zss_ret (ze_boxD (ns := ns) (o := 0) (za_cons (ze_listO (.d _) (za_cons (ze_slL (.d _) (ze_var 0 rfl) zp_none (zp_some ze_int)) za_nil) m2) (za_cons ze_int (za_cons (ze_add ze_int (ze_lenL (.d _) (za_cons (ze_var 0 rfl) za_nil) m1)) za_nil))) ?_) ⟨Nat.zero_le _, .inl ⟨_, rfl, ?_⟩, rfl⟩
  · show some (OL (cut (ns.map .int) none (some 63))) = _
    rw [cut63 (by simpa using hy)]
  · show IT.o _ = IT.o _
    unfold box0
    rw [List.length_map]
end
end K66

namespace K66
open PySem L2 PyProof.Rows Z
section
variable {P : Program} {w : World} {K : PySem.W.Frag} {mg : Str → Option Value} {base : Heap}
structure SameM (mg : Str → Option Value) : Prop where
  isi : mg "isinstance" = none
  tup : mg "tuple" = none
  lst : mg "list" = none
  bl : mg "bool" = none
  int : mg "int" = none
  str : mg "str" = none
  len : mg "len" = none
  all : mg "all" = none
  range : mg "range" = none
theorem same_body (D : Dfn K mg "_law_same" s__law_same ["a", "b"]) (m : SameM mg) (n : Nat) (ih : ∀ j, n = j + 1 → Cal P w K mg base n "_law_same" (preOf aSm (okSm j)) (relOf aSm (okSm j) rSm (fun _ => []))) :
    Cal P w K mg base (n + 1) "_law_same" (preOf aSm (okSm n)) (relOf aSm (okSm n) rSm (fun _ => [])) := by
  refine zfunS D sc__law_same (fun _ => rfl) (fun x y _ _ e => by
    obtain ⟨x1, x2⟩ := x
    obtain ⟨y1, y2⟩ := y
    have e0 : x1 = y1 ∧ x2 = y2 := by simpa [aSm] using e
    obtain ⟨e1, e2⟩ := e0
    subst e1 e2
    exact ⟨rfl, rfl⟩) fun f cdv Ar outer s H E z hy hr => ?_
  obtain ⟨x, y⟩ := z
  obtain ⟨nx, ny, hd⟩ := hy
  have hu := hr.units
  refine zss_ifRet (k := (Z.isTup x && Z.isTup y) || (Z.isLst x && Z.isLst y)) (zw_orI (zw_andI (zt_isi (.d x) (kit_tup x) (ze_var 0 rfl) m.isi m.tup) (fun _ => zw_and1 (zt_isi (.d y) (kit_tup y) (ze_var 1 rfl) m.isi m.tup))).t
    (fun _ => zw_or1 (zw_andI (zt_isi (.d x) (kit_lst x) (ze_var 0 rfl) m.isi m.lst) (fun _ => zw_and1 (zt_isi (.d y) (kit_lst y) (ze_var 1 rfl) m.isi m.lst))).t)).t (fun h => ?_) (fun h0 => ?_)
  · have hc : (∃ xs ys, x = .tuple xs ∧ y = .tuple ys) ∨ (∃ xs ys, x = .list xs ∧ y = .list ys) := by
      cases x <;> cases y <;> first | (exact .inl ⟨_, _, rfl, rfl⟩) | (exact .inr ⟨_, _, rfl, rfl⟩) | (simp [Z.isTup, Z.isLst] at h)
    rcases hc with ⟨xs, ys, rfl, rfl⟩ | ⟨xs, ys, rfl, rfl⟩
    · simp only [nar, Bool.and_eq_true, decide_eq_true_eq] at nx ny
      simp only [PyData.depth] at hd
      obtain ⟨j, rfl⟩ : ∃ j, n = j + 1 := ⟨n - 1, by omega⟩
      refine zss_ret (r := .d (.bool (xs.length == ys.length && sames xs ys))) (ze_and (k := xs.length == ys.length) ((ze_eq hu (.d _) (.d _) rfl rfl (ze_lenT (.d (.tuple xs)) (za_cons (ze_var 0 rfl) za_nil) m.len) (ze_lenT (.d (.tuple ys)) (za_cons (ze_var 1 rfl) za_nil) m.len)).to (by congr 2; show ((xs.length : Int) == (ys.length : Int)) = _; rw [Bool.eq_iff_iff]; simp [beq_iff_eq]; omega) rfl) fun hl => ?_) ⟨?_, rfl⟩
      · have hl : xs.length = ys.length := by simpa using hl
        obtain ⟨bs, h1, h2⟩ := smAt_rng hl
        rw [← h2]
        refine ze_one (ze_all (bs := bs) (.d _) (za_cons (ZE.to (ze_lcM (smAt xs ys) (vs := [2]) (zi_rng1 (za_cons (ze_lenT (.d (.tuple xs)) (za_cons (ze_var 0 rfl) za_nil) m.len) za_nil) ⟨by omega, by have := sizeLine_eq; omega⟩ m.range) (fun x hx => ?_) (by rw [rng_len]; simpa using nx.1) sc__law_same.nd (blkOk_by (own := [("k", 2)]) (by kernel_rfl))) (by
          show SD.d (.list (List.map _ (rng 0 (Int.toNat (xs.length : Nat))))) = _
          rw [Int.toNat_natCast, h1]) rfl) za_nil) m.all)
        obtain ⟨k, hk, rfl⟩ := rng_in0 hx
        have hk : k < xs.length := by simpa using hk
        have g1 : xs[k]? = some (xs.getD k .none) := by rw [List.getD_eq_getElem?_getD, List.getElem?_eq_getElem hk]; rfl
        have g2 : ys[k]? = some (ys.getD k .none) := by rw [List.getD_eq_getElem?_getD, List.getElem?_eq_getElem (by omega)]; rfl
        refine ⟨_, fun z => zg_name 2 (lt_of rfl) sc__law_same.nd, rfl, fun z => ?_⟩
        have d1 := deps_get g1
        have d2 := deps_get g2
        exact ZE.to (ze_callS (xs.getD k .none, ys.getD k .none) (ih j rfl) (za_cons (ze_ixT (.d (.tuple xs)) (atI_nat g1) (ze_var 0 rfl) (ze_var 2 rfl)) (za_cons (ze_ixT (.d (.tuple ys)) (atI_nat g2) (ze_var 1 rfl) (ze_var 2 rfl)) za_nil)) ⟨nars_get nx.2 g1, nars_get ny.2 g2, by show min (xs.getD k .none).depth (ys.getD k .none).depth ≤ j; omega⟩ rfl hr (Nat.le_refl _)) rfl rfl
      · show IT.d (.bool (same _ _)) = _
        simp only [same]
    · simp only [nar, Bool.and_eq_true, decide_eq_true_eq] at nx ny
      simp only [PyData.depth] at hd
      obtain ⟨j, rfl⟩ : ∃ j, n = j + 1 := ⟨n - 1, by omega⟩
      refine zss_ret (r := .d (.bool (xs.length == ys.length && sames xs ys))) (ze_and (k := xs.length == ys.length) ((ze_eq hu (.d _) (.d _) rfl rfl (ze_lenL (.d (.list xs)) (za_cons (ze_var 0 rfl) za_nil) m.len) (ze_lenL (.d (.list ys)) (za_cons (ze_var 1 rfl) za_nil) m.len)).to (by congr 2; show ((xs.length : Int) == (ys.length : Int)) = _; rw [Bool.eq_iff_iff]; simp [beq_iff_eq]; omega) rfl) fun hl => ?_) ⟨?_, rfl⟩
      · have hl : xs.length = ys.length := by simpa using hl
        obtain ⟨bs, h1, h2⟩ := smAt_rng hl
        rw [← h2]
        refine ze_one (ze_all (bs := bs) (.d _) (za_cons (ZE.to (ze_lcM (smAt xs ys) (vs := [2]) (zi_rng1 (za_cons (ze_lenL (.d (.list xs)) (za_cons (ze_var 0 rfl) za_nil) m.len) za_nil) ⟨by omega, by have := sizeLine_eq; omega⟩ m.range) (fun x hx => ?_) (by rw [rng_len]; simpa using nx.1) sc__law_same.nd (blkOk_by (own := [("k", 2)]) (by kernel_rfl))) (by
          show SD.d (.list (List.map _ (rng 0 (Int.toNat (xs.length : Nat))))) = _
          rw [Int.toNat_natCast, h1]) rfl) za_nil) m.all)
        obtain ⟨k, hk, rfl⟩ := rng_in0 hx
        have hk : k < xs.length := by simpa using hk
        have g1 : xs[k]? = some (xs.getD k .none) := by rw [List.getD_eq_getElem?_getD, List.getElem?_eq_getElem hk]; rfl
        have g2 : ys[k]? = some (ys.getD k .none) := by rw [List.getD_eq_getElem?_getD, List.getElem?_eq_getElem (by omega)]; rfl
        refine ⟨_, fun z => zg_name 2 (lt_of rfl) sc__law_same.nd, rfl, fun z => ?_⟩
        have d1 := deps_get g1
        have d2 := deps_get g2
        exact ZE.to (ze_callS (xs.getD k .none, ys.getD k .none) (ih j rfl) (za_cons (ze_ixL (.d (.list xs)) (atI_nat g1) (ze_var 0 rfl) (ze_var 2 rfl)) (za_cons (ze_ixL (.d (.list ys)) (atI_nat g2) (ze_var 1 rfl) (ze_var 2 rfl)) za_nil)) ⟨nars_get nx.2 g1, nars_get ny.2 g2, by show min (xs.getD k .none).depth (ys.getD k .none).depth ≤ j; omega⟩ rfl hr (Nat.le_refl _)) rfl rfl
      · show IT.d (.bool (same _ _)) = _
        simp only [same]
  · refine zss_ifRet (k := Z.isBl x || Z.isBl y) (zw_orI (zt_isi (.d x) (kit_bl x) (ze_var 0 rfl) m.isi m.bl) (fun _ => zw_or1 (zt_isi (.d y) (kit_bl y) (ze_var 1 rfl) m.isi m.bl))).t (fun h => ?_) (fun h => ?_)
    · refine zss_ret (r := .d (.bool (Z.isBl x && (Z.isBl y && PyData.eqv x y)))) (ze_and (ze_isi (.d x) (kit_bl x) (ze_var 0 rfl) m.isi m.bl) fun hx => ze_and (ze_isi (.d y) (kit_bl y) (ze_var 1 rfl) m.isi m.bl) fun hy => ze_one (ze_eq hu (.d x) (.d y) (by cases x <;> first | rfl | cases hx) (by cases y <;> first | rfl | cases hy) (ze_var 0 rfl) (ze_var 1 rfl))) ⟨?_, rfl⟩
      show IT.d (.bool (same x y)) = .d (.bool _)
      cases x <;> cases y <;> first | (simp [Z.isBl] at h; done) | (simp [same, Z.isBl, PyData.eqv]; done) | (simp [same, Z.isBl, PyData.eqv]; rfl)
    · refine zss_ifRet (k := (Z.isInt x && Z.isInt y) || (Z.isStr x && Z.isStr y)) (zw_orI (zw_andI (zt_isi (.d x) (kit_int x) (ze_var 0 rfl) m.isi m.int) (fun _ => zw_and1 (zt_isi (.d y) (kit_int y) (ze_var 1 rfl) m.isi m.int))).t
        (fun _ => zw_or1 (zw_andI (zt_isi (.d x) (kit_str x) (ze_var 0 rfl) m.isi m.str) (fun _ => zw_and1 (zt_isi (.d y) (kit_str y) (ze_var 1 rfl) m.isi m.str))).t)).t (fun h2 => ?_) (fun h2 => ?_)
      · have hc : (∃ i j, x = .int i ∧ y = .int j) ∨ (∃ i j, x = .str i ∧ y = .str j) := by
          cases x <;> cases y <;> first | (exact .inl ⟨_, _, rfl, rfl⟩) | (exact .inr ⟨_, _, rfl, rfl⟩) | (simp [Z.isBl, Z.isInt, Z.isStr] at h h2; done)
        rcases hc with ⟨i, j, rfl, rfl⟩ | ⟨i, j, rfl, rfl⟩
        · refine zss_ret (ze_eqP (.d _) (.d _) (ze_var 0 rfl) (ze_var 1 rfl) rfl rfl (roomE hu (by simp [PyData.depth]))) ⟨?_, rfl⟩
          show IT.d (.bool (same _ _)) = .d (.bool _)
          simp only [same, PyData.eqv]
        · refine zss_ret (ze_eqP (.d _) (.d _) (ze_var 0 rfl) (ze_var 1 rfl) rfl rfl (roomE hu (by simp [PyData.depth]))) ⟨?_, rfl⟩
          show IT.d (.bool (same _ _)) = .d (.bool _)
          simp only [same, PyData.eqv]
      · refine zss_ret (r := .d (.bool (Z.isNon x && Z.isNon y))) (ze_and (ze_isN (.d x) (ze_var 0 rfl)) fun _ => ze_one (ze_isN (.d y) (ze_var 1 rfl))) ⟨?_, rfl⟩
        show IT.d (.bool (same x y)) = .d (.bool _)
        cases x <;> cases y <;> first | (simp [same, Z.isNon]; done) | (simp [Z.isBl, Z.isInt, Z.isStr, Z.isTup, Z.isLst] at h0 h h2; done)
theorem c_same (D : Dfn K mg "_law_same" s__law_same ["a", "b"]) (m : SameM mg) : ∀ n : Nat,
    Cal P w K mg base (n + 1) "_law_same" (preOf aSm (okSm n)) (relOf aSm (okSm n) rSm (fun _ => []))
  | 0 => same_body D m 0 fun j h => by cases h
  | n + 1 => same_body D m (n + 1) fun j h => by cases h; exact c_same D m n
end
end K66

namespace K66
open PySem L2 PyProof.Rows Z

/-! ### bars, without a program -/
abbrev Bar := List Nat
def bite (b : Bar) (i j : Nat) : Bar := ((b.take i) ++ (b.drop i).map (fun l => min l j)).filter (fun l => decide (0 < l))
def bites0 (b : Bar) : List (Nat × Nat) := (List.range b.length).flatMap fun i => (List.range (b.getD i 0)).map fun j => (i, j)
def bites (b : Bar) : List (Nat × Nat) := (bites0 b).filter fun z => z != (0, 0)
def lostF : Nat → Bar → Bool
  | 0, _ => true
  | n + 1, b => !((bites b).any fun z => lostF n (bite b z.1 z.2))
@[irreducible] def lost (b : Bar) : Bool := lostF 100 b
theorem bites0_mem {b : Bar} {z : Nat × Nat} : z ∈ bites0 b ↔ z.1 < b.length ∧ z.2 < b.getD z.1 0 := by
  unfold bites0
  rw [List.mem_flatMap]
  constructor
  · rintro ⟨i, hi, hz⟩
    obtain ⟨j, hj, rfl⟩ := List.mem_map.mp hz
    exact ⟨List.mem_range.mp hi, List.mem_range.mp hj⟩
  · rintro ⟨h1, h2⟩
    exact ⟨z.1, List.mem_range.mpr h1, List.mem_map.mpr ⟨z.2, List.mem_range.mpr h2, rfl⟩⟩
theorem bites_mem {b : Bar} {z : Nat × Nat} (h : z ∈ bites b) : z.1 < b.length ∧ z.2 < b.getD z.1 0 := bites0_mem.mp (List.mem_filter.mp h).1
theorem sum_filter (l : Bar) : (l.filter fun x => decide (0 < x)).sum = l.sum := by
  induction l with
  | nil => rfl
  | cons x l ih =>
    by_cases h : 0 < x
    · rw [List.filter_cons_of_pos (by simpa using h), List.sum_cons, List.sum_cons, ih]
    · rw [List.filter_cons_of_neg (by simpa using h), List.sum_cons, ih]
      omega
theorem sum_min (l : Bar) (j : Nat) : (l.map fun x => min x j).sum ≤ l.sum := by
  induction l with
  | nil => exact Nat.le_refl _
  | cons x l ih =>
    rw [List.map_cons, List.sum_cons, List.sum_cons]
    omega
theorem bite_lt {b : Bar} {i j : Nat} (hi : i < b.length) (hj : j < b.getD i 0) : (bite b i j).sum < b.sum := by
  unfold bite
  rw [sum_filter, List.sum_append]
  have e : b.drop i = b[i] :: b.drop (i + 1) := List.drop_eq_getElem_cons hi
  have eg : b.getD i 0 = b[i] := by rw [List.getD_eq_getElem?_getD, List.getElem?_eq_getElem hi]; rfl
  rw [eg] at hj
  rw [e, List.map_cons, List.sum_cons]
  have h1 := sum_min (b.drop (i + 1)) j
  have h2 : b.sum = (b.take i).sum + (b[i] + (b.drop (i + 1)).sum) := by
    conv => lhs; rw [← List.take_append_drop i b]
    rw [List.sum_append, e, List.sum_cons]
  omega
theorem lostF_eq : ∀ (n m : Nat) (b : Bar), b.sum ≤ n → b.sum ≤ m → lostF n b = lostF m b := by
  intro n
  induction n with
  | zero =>
    intro m b h1 h2
    cases m with
    | zero => rfl
    | succ m =>
      show true = !((bites b).any fun z => lostF m (bite b z.1 z.2))
      have : (bites b) = [] := by
        cases hb : bites b with
        | nil => rfl
        | cons z l =>
          obtain ⟨h3, h4⟩ := bites_mem (b := b) (z := z) (by rw [hb]; exact List.mem_cons_self)
          have := bite_lt h3 h4
          omega
      rw [this]; rfl
  | succ n ih =>
    intro m b h1 h2
    cases m with
    | zero =>
      show (!((bites b).any fun z => lostF n (bite b z.1 z.2))) = true
      have : (bites b) = [] := by
        cases hb : bites b with
        | nil => rfl
        | cons z l =>
          obtain ⟨h3, h4⟩ := bites_mem (b := b) (z := z) (by rw [hb]; exact List.mem_cons_self)
          have := bite_lt h3 h4
          omega
      rw [this]; rfl
    | succ m =>
      show (!((bites b).any fun z => lostF n (bite b z.1 z.2))) = !((bites b).any fun z => lostF m (bite b z.1 z.2))
      congr 1
      rw [Bool.eq_iff_iff, List.any_eq_true, List.any_eq_true]
      constructor
      · rintro ⟨z, hz, e⟩
        obtain ⟨h3, h4⟩ := bites_mem hz
        have := bite_lt h3 h4
        exact ⟨z, hz, by rw [← ih m _ (by omega) (by omega)]; exact e⟩
      · rintro ⟨z, hz, e⟩
        obtain ⟨h3, h4⟩ := bites_mem hz
        have := bite_lt h3 h4
        exact ⟨z, hz, by rw [ih m _ (by omega) (by omega)]; exact e⟩
theorem lost_eq {b : Bar} (h : b.sum ≤ 99) : lost b = !((bites b).any fun z => lost (bite b z.1 z.2)) := by
  have e : lost b = !((bites b).any fun z => lostF 99 (bite b z.1 z.2)) := by unfold lost; rfl
  rw [e]
  congr 1
  rw [Bool.eq_iff_iff, List.any_eq_true, List.any_eq_true]
  constructor
  · rintro ⟨z, hz, q⟩
    obtain ⟨h3, h4⟩ := bites_mem hz
    have := bite_lt h3 h4
    exact ⟨z, hz, by unfold lost; rw [lostF_eq 100 99 _ (by omega) (by omega)]; exact q⟩
  · rintro ⟨z, hz, q⟩
    obtain ⟨h3, h4⟩ := bites_mem hz
    have := bite_lt h3 h4
    exact ⟨z, hz, by unfold lost at q; rw [lostF_eq 99 100 _ (by omega) (by omega)]; exact q⟩
/-- bars of the law's bounds -/
def okB (b : Bar) : Prop := b.length ≤ 6 ∧ ∀ x ∈ b, 1 ≤ x ∧ x ≤ 8
theorem okB_sum : ∀ {b : Bar}, (∀ x ∈ b, 1 ≤ x ∧ x ≤ 8) → b.sum ≤ 8 * b.length
  | [], _ => Nat.zero_le _
  | x :: b, h => by
    have := okB_sum (b := b) fun y hy => h y (List.mem_cons_of_mem _ hy)
    have := h x List.mem_cons_self
    rw [List.sum_cons, List.length_cons]
    omega
theorem okB.sum {b : Bar} (h : okB b) : b.sum ≤ 48 := by
  have := okB_sum h.2
  have := h.1
  omega
theorem bite_ok {b : Bar} {i j : Nat} (h : okB b) : okB (bite b i j) := by
  refine ⟨?_, fun x hx => ?_⟩
  · unfold bite
    refine Nat.le_trans (List.length_filter_le _ _) ?_
    rw [List.length_append, List.length_map, ← List.length_append, List.take_append_drop]
    exact h.1
  · unfold bite at hx
    obtain ⟨h1, h2⟩ := List.mem_filter.mp hx
    have h2 : 0 < x := by simpa using h2
    rcases List.mem_append.mp h1 with h3 | h3
    · have := h.2 x (List.mem_of_mem_take h3)
      omega
    · obtain ⟨y, hy, rfl⟩ := List.mem_map.mp h3
      have := h.2 y (List.mem_of_mem_drop hy)
      omega
/-- a told list of bars with a told answer for each: checked bite by bite -/
def certd (L : List Bar) (P : Bar → Bool) : Bool := L.all fun b => (P b == !((bites b).any fun z => P (bite b z.1 z.2))) && (bites b).all fun z => L.contains (bite b z.1 z.2)
theorem cert {L : List Bar} {P : Bar → Bool} (h : certd L P = true) : ∀ (n : Nat) (b : Bar), b ∈ L → b.sum ≤ n → b.sum ≤ 99 → lost b = P b := by
  intro n
  induction n with
  | zero =>
    intro b hb hs hs2
    have h0 := List.all_eq_true.mp h b hb
    simp only [Bool.and_eq_true, beq_iff_eq] at h0
    have e : bites b = [] := by
      cases hbb : bites b with
      | nil => rfl
      | cons z l =>
        obtain ⟨h3, h4⟩ := bites_mem (b := b) (z := z) (by rw [hbb]; exact List.mem_cons_self)
        have := bite_lt h3 h4
        omega
    rw [h0.1, lost_eq hs2, e]
    rfl
  | succ n ih =>
    intro b hb hs hs2
    have h0 := List.all_eq_true.mp h b hb
    simp only [Bool.and_eq_true, beq_iff_eq] at h0
    rw [h0.1, lost_eq hs2]
    congr 1
    have e : ∀ z ∈ bites b, lost (bite b z.1 z.2) = P (bite b z.1 z.2) := fun z hz => by
      obtain ⟨h3, h4⟩ := bites_mem hz
      have := bite_lt h3 h4
      exact ih _ (by simpa using List.all_eq_true.mp h0.2 z hz) (by omega) (by omega)
    rw [Bool.eq_iff_iff, List.any_eq_true, List.any_eq_true]
    exact ⟨fun ⟨z, hz, q⟩ => ⟨z, hz, by rw [← e z hz]; exact q⟩, fun ⟨z, hz, q⟩ => ⟨z, hz, by rw [e z hz]; exact q⟩⟩
/-- two rows -/
def twoL : List Bar := (List.range 8).flatMap fun a => [a + 1] :: (List.range (a + 1)).map fun b => [a + 1, b + 1]
def twoP : Bar → Bool
  | [a] => a == 1
  | [a, b] => a == b + 1
  | _ => false
theorem two_cert : certd twoL twoP = true := by decide +kernel
theorem two_in {a b : Nat} (h1 : 1 ≤ b) (h2 : b ≤ a) (h3 : a ≤ 8) : [a, b] ∈ twoL := by
  unfold twoL
  rw [List.mem_flatMap]
  refine ⟨a - 1, List.mem_range.mpr (by omega), List.mem_cons_of_mem _ (List.mem_map.mpr ⟨b - 1, List.mem_range.mpr (by omega), ?_⟩)⟩
  rw [show a - 1 + 1 = a by omega, show b - 1 + 1 = b by omega]
theorem two_lost {a b : Nat} (h1 : 1 ≤ b) (h2 : b ≤ a) (h3 : a ≤ 8) : lost [a, b] = (a == b + 1) := by
  have := cert two_cert 16 [a, b] (two_in h1 h2 h3) (by simp; omega) (by simp; omega)
  exact this
/-- corners -/
def corL : List Bar := (List.range 8).flatMap fun a => (List.range 6).map fun k => (a + 1) :: List.replicate k 1
def corP : Bar → Bool
  | a :: l => a == l.length + 1
  | _ => false
theorem cor_cert : certd corL corP = true := by decide +kernel
theorem cor_in {a k : Nat} (h1 : 1 ≤ a) (h2 : a ≤ 8) (h3 : k ≤ 5) : a :: List.replicate k 1 ∈ corL := by
  unfold corL
  rw [List.mem_flatMap]
  exact ⟨a - 1, List.mem_range.mpr (by omega), List.mem_map.mpr ⟨k, List.mem_range.mpr (by omega), by rw [show a - 1 + 1 = a by omega]⟩⟩
theorem cor_lost {a k : Nat} (h1 : 1 ≤ a) (h2 : a ≤ 8) (h3 : k ≤ 5) : lost (a :: List.replicate k 1) = (a == k + 1) := by
  have := cert cor_cert 13 _ (cor_in h1 h2 h3) (by simp; omega) (by simp; omega)
  rw [this]
  show (a == (List.replicate k 1).length + 1) = _
  rw [List.length_replicate]
/-- rectangles -/
def recL : List Bar := (List.range 5).flatMap fun a => [a + 1] :: (List.range (a + 1)).flatMap fun b => [a + 1, b + 1] :: (List.range (b + 1)).flatMap fun c => [a + 1, b + 1, c + 1] :: (List.range (c + 1)).map fun d => [a + 1, b + 1, c + 1, d + 1]
/-- the lost ones, told from the last square on -/
def recT : List Bar := [[1], [2, 1], [3, 2], [4, 3], [5, 4], [2, 2, 1], [3, 1, 1], [4, 2, 2], [5, 3, 2], [5, 5, 3], [2, 2, 2, 1], [3, 3, 1, 1], [4, 1, 1, 1], [5, 2, 1, 1], [5, 3, 3, 2], [5, 5, 2, 2]]
def recP (b : Bar) : Bool := recT.contains b
theorem rec_cert : certd recL recP = true := by decide +kernel
theorem rec_in : ∀ a < 5, ∀ k < 4, List.replicate (k + 1) (a + 1) ∈ recL ∧ recP (List.replicate (k + 1) (a + 1)) = (a == 0 && k == 0) := by decide +kernel
theorem rec_lost {a k : Nat} (h1 : 1 ≤ a) (h2 : a ≤ 5) (h3 : 1 ≤ k) (h4 : k ≤ 4) : lost (List.replicate k a) = (a == 1 && k == 1) := by
  obtain ⟨a', rfl⟩ : ∃ a', a = a' + 1 := ⟨a - 1, by omega⟩
  obtain ⟨k', rfl⟩ : ∃ k', k = k' + 1 := ⟨k - 1, by omega⟩
  obtain ⟨q1, q2⟩ := rec_in a' (by omega) k' (by omega)
  have hs : (List.replicate (k' + 1) (a' + 1)).sum ≤ 99 := by
    rw [List.sum_replicate_nat]
    have : (k' + 1) * (a' + 1) ≤ 4 * 5 := Nat.mul_le_mul h4 h2
    omega
  rw [cert rec_cert 99 _ q1 hs hs, q2]
  rw [Bool.eq_iff_iff]
  simp
theorem sq_bite : ∀ a < 3, bite (List.replicate (a + 2) (a + 2)) 1 1 = (a + 2) :: List.replicate (a + 1) 1 := by decide +kernel
end K66

namespace K66
open PySem L2 PyProof.Rows Z
theorem cut_hi {ds : List PyData} {i : Nat} : cut ds none (some (i : Int)) = ds.take i := by
  unfold cut
  rw [HT.sIx_nat, HT.sIx_none, List.drop_zero, Nat.sub_zero]
  by_cases h : i ≤ ds.length
  · rw [Nat.min_eq_left h]
  · rw [Nat.min_eq_right (by omega), List.take_length, List.take_of_length_le (by omega)]
theorem cut_lo {ds : List PyData} {i : Nat} : cut ds (some (i : Int)) none = ds.drop i := by
  unfold cut
  rw [HT.sIx_nat, HT.sIx_none]
  by_cases h : i ≤ ds.length
  · rw [Nat.min_eq_left h, List.take_of_length_le (by rw [List.length_drop]; omega)]
  · rw [Nat.min_eq_right (by omega), List.drop_length, List.drop_of_length_le (by omega), List.take_nil]
abbrev nI (n : Nat) : PyData := .int (n : Int)
def eB (b : Bar) : PyData := .tuple (b.map nI)
theorem nI_inj {l m : List Nat} (h : l.map nI = m.map nI) : l = m := (List.map_inj_right (fun x y e => by injection e with e; omega)).mp h
def isN (lo hi : Int) : PyData → Bool
  | .int i => decide (lo ≤ i) && decide (i ≤ hi)
  | _ => false
section
variable {P : Program} {w : World} {K : PySem.W.Frag} {mg : Str → Option Value} {base : Heap}
def aN : PyData × Int × Int → List IT := fun z => [.d z.1, .d (.int z.2.1), .d (.int z.2.2)]
theorem c_num (D : Dfn K mg "is_number" s_is_number ["value", "least", "most"]) (m1 : mg "isinstance" = none) (m2 : mg "int" = none) (m3 : mg "bool" = none) :
    Cal P w K mg base 1 "is_number" (preOf aN (fun _ => True)) (relOf aN (fun _ => True) (fun z => .d (.bool (isN z.2.1 z.2.2 z.1))) (fun _ => [])) := by
  refine zfunS D sc_is_number (fun _ => rfl) (fun x y _ _ e => by
    obtain ⟨x1, x2, x3⟩ := x
    obtain ⟨y1, y2, y3⟩ := y
    simp [aN] at e
    simp [e]) fun f cdv Ar outer s H E z hy hr => ?_
  obtain ⟨d, lo, hi⟩ := z
  by_cases hd : ∃ i, d = .int i
  · obtain ⟨i, rfl⟩ := hd
    refine zss_ret (ze_and (ze_isi (.d _) (kit_int _) (ze_var 0 rfl) m1 m2) fun _ => ze_and (ze_not (ze_isi (.d _) (kit_bl _) (ze_var 0 rfl) m1 m3)) fun _ => ze_one (ze_chI op_le op_le (ze_var 1 rfl) (ze_var 0 rfl) (ze_var 2 rfl))) ⟨?_, rfl⟩
    rfl
  · refine zss_ret (r := .d (.bool (Z.isInt d && (!isBl d && false)))) (ze_and (ze_isi (.d _) (kit_int _) (ze_var 0 rfl) m1 m2) fun h1 => ze_and (ze_not (ze_isi (.d _) (kit_bl _) (ze_var 0 rfl) m1 m3)) fun h2 => ?_) ⟨?_, rfl⟩
    · cases d <;> first | exact absurd ⟨_, rfl⟩ hd | (simp [Z.isInt, isBl] at h1 h2)
    · show IT.d (.bool (isN lo hi d)) = .d (.bool _)
      cases d <;> first | exact absurd ⟨_, rfl⟩ hd | rfl | (simp [isN])
/-! ### the rest behind a bite -/
def aBt : Bar × Nat × Nat → List IT := fun z => [.d (eB z.1), .d (.int z.2.1), .d (.int z.2.2)]
def okBt : Bar × Nat × Nat → Prop := fun z => z.1.length ≤ 6
theorem aBt_inj {x y : Bar × Nat × Nat} (e : aBt x = aBt y) : x = y := by
  obtain ⟨x1, x2, x3⟩ := x
  obtain ⟨y1, y2, y3⟩ := y
  have e0 : (x1.map nI = y1.map nI) ∧ (x2 : Int) = y2 ∧ (x3 : Int) = y3 := by simpa [aBt, eB] using e
  obtain ⟨e1, e2, e3⟩ := e0
  rw [nI_inj e1, Int.ofNat.inj e2, Int.ofNat.inj e3]
def minF (j : Int) : PyData → PyData
  | .int l => .int (if j < l then j else l)
  | _ => .none
def posF : PyData → Bool
  | .int l => decide (l > 0)
  | _ => false
theorem minF_map (l : List Nat) (j : Nat) : (l.map nI).map (minF j) = (l.map fun x => min x j).map nI := by
  rw [List.map_map, List.map_map]
  refine List.map_congr_left fun x _ => ?_
  show PyData.int (if (j : Int) < x then j else x) = .int ((min x j : Nat) : Int)
  congr 1
  split <;> omega
theorem posF_filter (l : List Nat) : (l.map nI).filter posF = (l.filter fun x => decide (0 < x)).map nI := by
  rw [List.filter_map]
  congr 1
  refine List.filter_congr fun x _ => ?_
  show decide ((x : Int) > 0) = decide (0 < x)
  rw [Bool.eq_iff_iff, decide_eq_true_eq, decide_eq_true_eq]
  omega
theorem map_in {l : List Nat} {x : PyData} (h : x ∈ l.map nI) : ∃ n, n ∈ l ∧ x = .int (n : Nat) := by
  obtain ⟨n, h1, h2⟩ := List.mem_map.mp h
  exact ⟨n, h1, h2.symm⟩
theorem c_bitten (D : Dfn K mg "bitten" s_bitten ["bar", "i", "j"]) (m1 : mg "tuple" = none) (m2 : mg "min" = none) :
    Cal P w K mg base 1 "bitten" (preOf aBt okBt) (relOf aBt okBt (fun z => .d (eB (bite z.1 z.2.1 z.2.2))) (fun _ => [])) := by
  refine zfunS D sc_bitten (fun _ => rfl) (fun x y _ _ e => by rw [aBt_inj e]; exact ⟨rfl, rfl⟩) fun f cdv Ar outer s H E z hy hr => ?_
  obtain ⟨b, i, j⟩ := z
  have hy : b.length ≤ 6 := hy
  have s6 : 6 < sizeLine := by decide
  have lt : (b.take i).length ≤ 6 := by rw [List.length_take]; omega
  have ld : (b.drop i).length ≤ 6 := by rw [List.length_drop]; omega
  have lsum : (b.take i).length + (b.drop i).length ≤ 6 := by rw [List.length_take, List.length_drop]; omega
  refine zss_set 3 (r := .d (.tuple (((b.take i) ++ (b.drop i).map fun x => min x j).map nI))) (ZE.x (ze_cat (ds := (b.take i).map nI) (es := ((b.drop i).map fun x => min x j).map nI) (by simp only [List.length_map]; omega) (ZE.x (ze_slT (.d _) (ze_var 0 rfl) zp_none (zp_some (ze_var 1 rfl))) (by rw [cut_hi, List.map_take])) (ze_tupOfL (.d _) (za_cons (ZE.x (ze_lcM (minF j) (vs := [4]) (zi_tup (ZE.x (ze_slT (.d _) (ze_var 0 rfl) (zp_some (ze_var 1 rfl)) zp_none) (show _ = PyData.tuple ((b.drop i).map nI) by rw [cut_lo, List.map_drop]))) (fun x hx => ?_) (by rw [List.length_map]; omega) sc_bitten.nd (blkOk_by (own := [("length", 4)]) (by kernel_rfl))) (congrArg PyData.list (minF_map (b.drop i) j))) za_nil) m1)) (by rw [List.map_append])) (lt_of rfl) ?_ sc_bitten.nd
  · obtain ⟨n, _, rfl⟩ := map_in hx
    exact ⟨_, fun z => zg_name 4 (lt_of rfl) sc_bitten.nd, rfl, fun z => ze_min2 (za_cons (ze_var 4 rfl) (za_cons (ze_var 2 rfl) za_nil)) m2⟩
  · refine zss_ret (ze_tupOfL (.d _) (za_cons (ze_lcP (fun x => x) posF (vs := [4]) (zi_tup (ze_var 3 rfl)) (fun x hx => ?_) (by rw [List.length_map, List.length_append, List.length_map]; omega) sc_bitten.nd (blkOk_by (own := [("length", 4)]) (by kernel_rfl))) za_nil) m1) ⟨?_, rfl⟩
    · obtain ⟨n, _, rfl⟩ := map_in hx
      exact ⟨_, fun z => zg_name 4 (lt_of rfl) sc_bitten.nd, rfl, fun z => zts_one (zt_gt (ze_var 4 rfl) ze_int), fun _ z => ze_var 4 rfl⟩
    · show IT.d (eB (bite b i j)) = .d _
      rw [posF_filter, List.map_id']
      rfl
end
end K66

namespace K66
open PySem L2 PyProof.Rows Z
def pB (z : Nat × Nat) : PyData := .tuple [nI z.1, nI z.2]
def esB (b : Bar) : PyData → List PyData
  | .int i => rng 0 (b.getD i.toNat 0)
  | _ => []
def n00 (x y : PyData) : Bool := !PyData.eqv (.tuple [x, y]) (.tuple [.int 0, .int 0])
theorem flat_le {α β : Type} {g : α → List β} {c : Nat} : ∀ {l : List α}, (∀ x ∈ l, (g x).length ≤ c) → (l.flatMap g).length ≤ c * l.length
  | [], _ => Nat.zero_le _
  | x :: l, h => by
    rw [List.flatMap_cons, List.length_append, List.length_cons, Nat.mul_succ]
    have := h x List.mem_cons_self
    have := flat_le (g := g) (c := c) (l := l) fun y hy => h y (List.mem_cons_of_mem _ hy)
    omega
theorem rng0_map (n : Nat) : rng 0 n = (List.range n).map nI := by
  unfold rng
  refine List.map_congr_left fun k _ => ?_
  show PyData.int (0 + (k : Int)) = .int k
  rw [Int.zero_add]
theorem okB.get {b : Bar} (h : okB b) (i : Nat) : b.getD i 0 ≤ 8 := by
  rw [List.getD_eq_getElem?_getD]
  cases e : b[i]? with
  | none => exact Nat.zero_le _
  | some x => exact (h.2 x (List.mem_of_getElem? e)).2
theorem n00_eq (i j : Nat) : n00 (nI i) (nI j) = ((i, j) != (0, 0)) := by
  unfold n00
  rw [Bool.eq_iff_iff]
  simp [PyData.eqv, PyData.eqvAll]
  omega
theorem ZI.x {X : Cx} {tg e : Expr} {s s1 : S} {ds ds' : List PyData} (h : ZI X tg e s ds s1) (q : ds = ds') : ZI X tg e s ds' s1 := q ▸ h
theorem bites_map (b : Bar) : ((rng 0 b.length).filter fun _ => true).flatMap (fun x => ((esB b x).filter (n00 x)).map fun y => PyData.tuple [x, y]) = (bites b).map pB := by
  rw [List.filter_eq_self.mpr (fun _ _ => rfl), rng0_map]
  unfold bites bites0
  rw [List.filter_flatMap, List.map_flatMap, List.flatMap_map]
  congr 1
  funext i
  show ((rng 0 (b.getD (i : Int).toNat 0)).filter (n00 (nI i))).map (fun y => PyData.tuple [nI i, y]) = _
  rw [Int.toNat_natCast, rng0_map, List.filter_map, List.map_map, List.filter_map, List.map_map]
  have e : (n00 (nI i) ∘ nI) = ((fun z : Nat × Nat => z != (0, 0)) ∘ fun j => (i, j)) := funext fun j => n00_eq i j
  rw [e]
  rfl
def aB : Bar → List IT := fun b => [.d (eB b)]
theorem aB_inj {x y : Bar} (e : aB x = aB y) : x = y := by
  have e0 : x.map nI = y.map nI := by simpa [aB, eB] using e
  exact nI_inj e0
theorem bites_len {b : Bar} (h : okB b) : (bites b).length ≤ 48 := by
  unfold bites
  refine Nat.le_trans (List.length_filter_le _ _) ?_
  unfold bites0
  have := flat_le (l := List.range b.length) (g := fun i => (List.range (b.getD i 0)).map fun j => (i, j)) (c := 8) fun i _ => by
    rw [List.length_map, List.length_range]
    exact h.get i
  rw [List.length_range] at this
  have := h.1
  omega
/-- all bars within the bounds -/
def ub : Nat → List Bar
  | 0 => [[]]
  | n + 1 => [] :: (List.range 9).flatMap fun x => (ub n).map fun l => x :: l
theorem ub_in : ∀ {n : Nat} {b : Bar}, b.length ≤ n → (∀ x ∈ b, x ≤ 8) → b ∈ ub n
  | 0, [], _, _ => List.mem_cons_self
  | 0, _ :: _, h, _ => by simp at h
  | n + 1, [], _, _ => List.mem_cons_self
  | n + 1, x :: b, h, h2 => by
    refine List.mem_cons_of_mem _ (List.mem_flatMap.mpr ⟨x, List.mem_range.mpr (by have := h2 x List.mem_cons_self; omega), List.mem_map.mpr ⟨b, ub_in (by simpa using h) fun y hy => h2 y (List.mem_cons_of_mem _ hy), rfl⟩⟩)
theorem ub_len : ∀ n : Nat, (ub n).length ≤ 10 ^ n
  | 0 => by decide
  | n + 1 => by
    show ([] :: (List.range 9).flatMap fun x => (ub n).map fun l => x :: l).length ≤ _
    rw [List.length_cons]
    have := flat_le (l := List.range 9) (g := fun x => (ub n).map fun l => x :: l) (c := (ub n).length) fun x _ => by rw [List.length_map]; exact Nat.le_refl _
    rw [List.length_range] at this
    have h := ub_len n
    have p : 1 ≤ 10 ^ n := Nat.one_le_pow _ _ (by decide)
    rw [Nat.pow_succ]
    omega
def UB : List PyData := (ub 6).map eB
theorem UB_len : UB.length < sizeLine := by
  unfold UB
  rw [List.length_map]
  have := ub_len 6
  have : 10 ^ 6 < sizeLine := by decide
  omega
theorem UB_in {b : Bar} (h : okB b) : eB b ∈ UB := List.mem_map.mpr ⟨b, ub_in h.1 fun x hx => (h.2 x hx).2, rfl⟩
def fK (k v : PyData) : Prop := ∃ b, okB b ∧ k = eB b ∧ v = .bool (lost b)
theorem fK_fn {b : Bar} {y : PyData} (h : fK (eB b) y) : y = .bool (lost b) := by
  obtain ⟨c, _, e, rfl⟩ := h
  have : b = c := nI_inj (by unfold eB at e; injection e)
  rw [this]
theorem key_ok (b : Bar) : kOK (eB b) = true ∧ dep (eB b) ≤ 8 := by
  have h : ∀ l : List Nat, kOKs (l.map nI) = true ∧ deps (l.map nI) = 0 := by
    intro l
    induction l with
    | nil => exact ⟨rfl, rfl⟩
    | cons x l ih => exact ⟨by simp [kOKs, kOK, ih.1], by simp [deps, dep, ih.2]⟩
  exact ⟨by unfold eB; simp [kOK, (h b).1], by unfold eB; simp [dep, (h b).2]⟩
section
variable {P : Program} {w : World} {K : PySem.W.Frag} {mg : Str → Option Value} {base : Heap}
abbrev CB (P : Program) (w : World) (K : PySem.W.Frag) (mg : Str → Option Value) (base : Heap) : Prop := Cal P w K mg base 1 "bitten" (preOf aBt okBt) (relOf aBt okBt (fun z => .d (eB (bite z.1 z.2.1 z.2.2))) (fun _ => []))
abbrev CO (P : Program) (w : World) (K : PySem.W.Frag) (mg : Str → Option Value) (base : Heap) : Prop := Cal P w K mg base 1 "bites_of" (preOf aB okB) (relOf aB okB (fun b => .d (.list ((bites b).map pB))) (fun _ => []))
theorem c_of (D : Dfn K mg "bites_of" s_bites_of ["bar"]) (m1 : mg "range" = none) (m2 : mg "len" = none) : CO P w K mg base := by
  refine zfunS D sc_bites_of (fun _ => rfl) (fun x y _ _ e => by rw [aB_inj e]; exact ⟨rfl, rfl⟩) fun f cdv Ar outer s H E b hy hr => ?_
  have hu := hr.units
  have hl := hy.1
  have s48 : 48 < sizeLine := by decide
  refine zss_ret (ZE.x (ze_lc2P (vs := [1, 2]) (vs1 := [2]) (esB b) (fun x y => .tuple [x, y]) (fun _ => true) n00 (zi_rng1 (za_cons (ze_lenT (.d (.tuple (b.map nI))) (za_cons (ze_var 0 rfl) za_nil) m2) za_nil) ⟨by omega, by rw [List.length_map]; omega⟩ m1) (fun x hx => ?_) ?_ sc_bites_of.nd (blkOk_by (own := [("i", 1), ("j", 2)]) (by kernel_rfl))) (by
      rw [List.length_map, Int.toNat_natCast]
      exact congrArg PyData.list (bites_map b))) ⟨rfl, rfl⟩
  · rw [List.length_map, Int.toNat_natCast] at hx
    obtain ⟨i, hi, rfl⟩ := rng_in0 hx
    have g1 : (b.map nI)[i]? = some (nI (b.getD i 0)) := by
      rw [List.getElem?_map, List.getD_eq_getElem?_getD, List.getElem?_eq_getElem hi]
      rfl
    have h8 := hy.get i
    refine ⟨_, fun z => zg_name 1 (lt_of rfl) sc_bites_of.nd, rfl, fun z => zts_nil, fun _ => ⟨fun z => ?_, fun y hy2 => ?_⟩⟩
    · refine ZI.x (zi_rng1 (za_cons (ze_ixT (.d (.tuple (b.map nI))) (atI_nat g1) (ze_var 0 rfl) (ze_var 1 rfl)) za_nil) ⟨by omega, by omega⟩ m1) ?_
      show rng 0 ((b.getD i 0 : Nat) : Int).toNat = rng 0 (b.getD (i : Int).toNat 0)
      rw [Int.toNat_natCast, Int.toNat_natCast]
    · obtain ⟨j, hj, rfl⟩ := rng_in0 (show y ∈ rng 0 (b.getD (i : Int).toNat 0) from hy2)
      refine ⟨_, fun z => zg_name 2 (lt_of rfl) sc_bites_of.nd, rfl, fun z => zts_one (zt_neP (.d _) (.d _) (ze_tup (ds := [.int (i : Nat), .int (j : Nat)]) (za_cons (ze_var 1 rfl) (za_cons (ze_var 2 rfl) za_nil))) (ze_tup (ds := [.int 0, .int 0]) (za_cons ze_int (za_cons ze_int za_nil))) rfl rfl (roomE hu (by simp [PyData.depth, PyData.depthAll]))), fun _ z => ze_tup (ds := [.int (i : Nat), .int (j : Nat)]) (za_cons (ze_var 1 rfl) (za_cons (ze_var 2 rfl) za_nil))⟩
  · rw [List.length_map, Int.toNat_natCast]
    have := flat_le (l := rng 0 b.length) (g := esB b) (c := 8) fun x hx => by
      obtain ⟨i, hi, rfl⟩ := rng_in0 hx
      show (rng 0 (b.getD (i : Int).toNat 0)).length ≤ 8
      rw [rng_len]
      exact hy.get _
    rw [rng_len] at this
    omega
end
end K66

namespace K66
open PySem L2 PyProof.Rows Z
section
variable {P : Program} {w : World} {K : PySem.W.Frag} {mg : Str → Option Value} {base : Heap}
abbrev OK0 (P : Program) (w : World) : Own := OMs P w fK fun _ => False
def aK (P : Program) (w : World) : Bar → List IT := fun b => [.d (eB b), .o (OK0 P w)]
def okK (n : Nat) : Bar → Prop := fun b => okB b ∧ b.sum ≤ n
def oK (P : Program) (w : World) : Bar → List Own := fun _ => [OK0 P w]
theorem aK_inj {x y : Bar} (e : aK P w x = aK P w y) : x = y := by
  have e0 : x.map nI = y.map nI := by simpa [aK, eB] using e
  exact nI_inj e0
def gL (b : Bar) : PyData → Bool
  | .tuple [.int i, .int j] => lost (bite b i.toNat j.toNat)
  | _ => false
theorem gL_any (b : Bar) : ((bites b).map fun z => lost (bite b z.1 z.2)).any id = (bites b).any fun z => lost (bite b z.1 z.2) := by
  rw [List.any_map]; rfl
theorem gL_map (b : Bar) : ((bites b).map pB).map (fun x => PyData.bool (gL b x)) = ((bites b).map fun z => lost (bite b z.1 z.2)).map .bool := by
  rw [List.map_map, List.map_map]
  exact List.map_congr_left fun z _ => rfl
abbrev CK (P : Program) (w : World) (K : PySem.W.Frag) (mg : Str → Option Value) (base : Heap) (n : Nat) : Prop :=
  Cal P w K mg base (n + 2) "known_lost" (preOf (aK P w) (okK n)) (relOf (aK P w) (okK n) (fun b => .d (.bool (lost b))) (oK P w))
theorem known_body (D : Dfn K mg "known_lost" s_known_lost ["bar", "known"]) (cb : CB P w K mg base) (co : CO P w K mg base) (m1 : mg "any" = none) (n : Nat) (ih : ∀ j, n = j + 1 → CK P w K mg base j) : CK P w K mg base n := by
  refine zfunS D sc_known_lost (fun _ => rfl) (fun x y _ _ e => by rw [aK_inj e]; exact ⟨rfl, rfl⟩) fun f cdv Ar outer s H E b hy hr => ?_
  obtain ⟨hb, hn⟩ := hy
  have hu20 : (Ar.deeper (envOfC (Str.ofString "known_lost") (defScope s_known_lost) s.heap.objs.size f cdv)).units + 20 < cLine := Nat.lt_of_le_of_lt (Nat.add_le_add_left (by decide) _) hr.units
  obtain ⟨k1, k2⟩ := key_ok b
  have s48 : 48 < sizeLine := by decide
  refine zss_if (M := fun t => t = ⟨[.d (eB b), .r 0, .un, .un], [OMs P w fK fun x => x = eB b ∨ False]⟩) (zt_ninS (o := 0) rfl (ze_var 0 rfl) (ze_var 1 rfl) k1 k2 hu20) (fun t ht => ?_) (fun t ht => ?_) (fun t ht => ?_)
  · rw [if_pos rfl] at ht
    subst ht
    refine zss_memoS (U := UB) (x := .bool (lost b)) (ZE.x (ze_not (ze_any (bs := (bites b).map fun z => lost (bite b z.1 z.2)) (.d _) (za_cons (ZE.x (ze_lcM (vs := [2, 3]) (fun x => .bool (gL b x)) (zi_list (ze_callS b co (za_cons (ze_var 0 rfl) za_nil) hb rfl hr)) (fun x hx => ?_) (by rw [List.length_map]; have := bites_len hb; omega) sc_known_lost.nd (blkOk_by (own := [("i", 2), ("j", 3)]) (by kernel_rfl))) (congrArg PyData.list (gL_map b))) za_nil) m1)) (by rw [gL_any, ← lost_eq (by have := hb.sum; omega)])) (ze_var 1 rfl) (ze_var 0 rfl) rfl fK (fun k v h _ => h) ⟨b, hb, rfl, rfl⟩ (fun k v ⟨c, h1, h2, _⟩ => by rw [h2]; exact UB_in h1) UB_len k1 k2 hu20 (zss_nil rfl)
    obtain ⟨z, hz, rfl⟩ := List.mem_map.mp hx
    obtain ⟨z1, z2⟩ := bites_mem hz
    have hlt := bite_lt z1 z2
    obtain ⟨j, rfl⟩ : ∃ j, n = j + 1 := ⟨n - 1, by omega⟩
    refine ⟨_, fun z' => zg_tup (zgs_cons (zg_name 2 (lt_of rfl) sc_known_lost.nd) (zgs_cons (zg_name 3 (lt_of rfl) sc_known_lost.nd) zgs_nil)), rfl, fun z' => ZE.to (ze_callS1 (zd := .bool (lost (bite b z.1 z.2))) (bite b z.1 z.2) (ih j rfl) (za_cons (ze_callS (b, z.1, z.2) cb (za_cons (ze_var 0 rfl) (za_cons (ze_var 2 rfl) (za_cons (ze_var 3 rfl) za_nil))) hb.1 rfl hr) (za_cons (ze_var 1 rfl) za_nil)) ⟨bite_ok hb, by omega⟩ rfl rfl rfl hr) rfl rfl⟩
  · rw [if_neg Bool.false_ne_true] at ht
    subst ht
    exact zss_nil rfl
  · subst ht
    exact zss_ret (ZE.wkO (o := 0) (ze_memoS (o := 0) rfl (.inl rfl) (fun y => fK_fn) (ze_var 1 rfl) (ze_var 0 rfl) k1 k2 hu20) rfl (OMs.le (fun _ _ h => h) fun _ h => h.elim)) ⟨rfl, rfl⟩
theorem c_known (D : Dfn K mg "known_lost" s_known_lost ["bar", "known"]) (cb : CB P w K mg base) (co : CO P w K mg base) (m1 : mg "any" = none) : ∀ n : Nat, CK P w K mg base n
  | 0 => known_body D cb co m1 0 fun j h => by cases h
  | n + 1 => known_body D cb co m1 (n + 1) fun j h => by cases h; exact c_known D cb co m1 n
abbrev CL (P : Program) (w : World) (K : PySem.W.Frag) (mg : Str → Option Value) (base : Heap) : Prop := Cal P w K mg base 51 "is_lost_bar" (preOf aB okB) (relOf aB okB (fun b => .d (.bool (lost b))) (fun _ => []))
theorem c_lost (D : Dfn K mg "is_lost_bar" s_is_lost_bar ["bar"]) (ck : CK P w K mg base 48) : CL P w K mg base := by
  refine zfunS D sc_is_lost_bar (fun _ => rfl) (fun x y _ _ e => by rw [aB_inj e]; exact ⟨rfl, rfl⟩) fun f cdv Ar outer s H E b hy hr => ?_
  exact zss_ret (ze_callS1 b ck (o := 0) (za_cons (ze_var 0 rfl) (za_cons (ze_newS fK) za_nil)) ⟨hy, hy.sum⟩ rfl rfl rfl hr) ⟨rfl, rfl⟩
def winsB (b : Bar) : List (Nat × Nat) := (bites b).filter fun z => lost (bite b z.1 z.2)
abbrev CW (P : Program) (w : World) (K : PySem.W.Frag) (mg : Str → Option Value) (base : Heap) : Prop := Cal P w K mg base 51 "winning_bites" (preOf aB okB) (relOf aB okB (fun b => .d (.tuple ((winsB b).map pB))) (fun _ => []))
theorem c_wins (D : Dfn K mg "winning_bites" s_winning_bites ["bar"]) (ck : CK P w K mg base 48) (cb : CB P w K mg base) (co : CO P w K mg base) (m1 : mg "tuple" = none) : CW P w K mg base := by
  refine zfunS D sc_winning_bites (fun _ => rfl) (fun x y _ _ e => by rw [aB_inj e]; exact ⟨rfl, rfl⟩) fun f cdv Ar outer s H E b hy hr => ?_
  have s48 : 48 < sizeLine := by decide
  have hs := hy.sum
  refine zss_set 1 (ze_newS fK) (lt_of rfl) ?_ sc_winning_bites.nd
  refine zss_ret (ze_tupOfL (.d _) (za_cons (ze_lcP (vs := [2, 3]) (fun x => x) (gL b) (zi_list (ze_callS b co (za_cons (ze_var 0 rfl) za_nil) hy rfl hr)) (fun x hx => ?_) (by rw [List.length_map]; have := bites_len hy; omega) sc_winning_bites.nd (blkOk_by (own := [("i", 2), ("j", 3)]) (by kernel_rfl))) za_nil) m1) ⟨?_, rfl⟩
  · obtain ⟨z, hz, rfl⟩ := List.mem_map.mp hx
    obtain ⟨z1, z2⟩ := bites_mem hz
    have hlt := bite_lt z1 z2
    refine ⟨_, fun z' => zg_tup (zgs_cons (zg_name 2 (lt_of rfl) sc_winning_bites.nd) (zgs_cons (zg_name 3 (lt_of rfl) sc_winning_bites.nd) zgs_nil)), rfl, fun z' => zts_one (zt_val (ZE.to (ze_callS1 (zd := .bool (lost (bite b z.1 z.2))) (bite b z.1 z.2) ck (za_cons (ze_callS (b, z.1, z.2) cb (za_cons (ze_var 0 rfl) (za_cons (ze_var 2 rfl) (za_cons (ze_var 3 rfl) za_nil))) hy.1 rfl hr) (za_cons (ze_var 1 rfl) za_nil)) ⟨bite_ok hy, by omega⟩ rfl rfl rfl hr) rfl rfl)), fun _ z' => ze_tup (ds := [nI z.1, nI z.2]) (za_cons (ze_var 2 rfl) (za_cons (ze_var 3 rfl) za_nil))⟩
  · show IT.d (.tuple ((winsB b).map pB)) = .d _
    rw [List.map_id', List.filter_map]
    rfl
end
end K66

namespace K66
open PySem L2 PyProof.Rows Z
def gB (b : Bar) (i j k : Nat) : Nat := if k < i then b.getD k 0 else min (b.getD k 0) j
theorem getD_get {b : Bar} {k : Nat} (h : k < b.length) : b.getD k 0 = b[k] := by rw [List.getD_eq_getElem?_getD, List.getElem?_eq_getElem h]; rfl
theorem bite_rows (b : Bar) (i j : Nat) : b.take i ++ (b.drop i).map (fun x => min x j) = (List.range b.length).map (gB b i j) := by
  refine List.ext_getElem (by simp; omega) fun k h1 h2 => ?_
  have hk : k < b.length := by simpa using h2
  rw [List.getElem_map, List.getElem_range]
  unfold gB
  rw [getD_get hk]
  by_cases h : k < i
  · rw [if_pos h, List.getElem_append_left (by simp; omega), List.getElem_take]
  · rw [if_neg h, List.getElem_append_right (by simp; omega), List.getElem_map, List.getElem_drop]
    congr 2
    rw [List.length_take]
    omega
theorem bite_eq (b : Bar) (i j : Nat) : bite b i j = ((List.range b.length).map (gB b i j)).filter fun l => decide (0 < l) := by
  unfold bite
  rw [bite_rows]
theorem lt_filter (j : Nat) : ∀ n : Nat, ((List.range n).filter fun x => decide (x < j)).length = min n j
  | 0 => by simp
  | n + 1 => by
    rw [List.range_succ, List.filter_append, List.length_append, lt_filter j n]
    by_cases h : n < j
    · rw [List.filter_cons_of_pos (by simpa using h)]
      simp
      omega
    · rw [List.filter_cons_of_neg (by simpa using h)]
      simp
      omega
def stayP (k i j : Nat) : PyData → Bool
  | .int x => decide ((k : Int) < i) || decide (x < j)
  | _ => false
theorem stay_len (b : Bar) (i j k : Nat) : (((rng 0 (b.getD k 0)).filter (stayP k i j)).map fun x => x).length = gB b i j k := by
  rw [List.length_map, rng0_map, List.filter_map, List.length_map]
  unfold gB
  by_cases h : k < i
  · rw [if_pos h, List.filter_eq_self.mpr, List.length_range]
    intro x _
    show (decide ((k : Int) < i) || decide ((x : Int) < j)) = true
    rw [decide_eq_true (by omega)]
    rfl
  · rw [if_neg h, ← lt_filter]
    congr 1
    refine List.filter_congr fun x _ => ?_
    show (decide ((k : Int) < i) || decide ((x : Int) < j)) = decide (x < j)
    rw [decide_eq_false (by omega), Bool.false_or, Bool.eq_iff_iff, decide_eq_true_eq, decide_eq_true_eq]
    omega
section
variable {P : Program} {w : World} {K : PySem.W.Frag} {mg : Str → Option Value} {base : Heap}
def okBt8 : Bar × Nat × Nat → Prop := fun z => okB z.1
abbrev CLB (P : Program) (w : World) (K : PySem.W.Frag) (mg : Str → Option Value) (base : Heap) : Prop := Cal P w K mg base 1 "_law_bite" (preOf aBt okBt8) (relOf aBt okBt8 (fun z => .d (eB (bite z.1 z.2.1 z.2.2))) (fun _ => []))
def rowsL (b : Bar) (i j m : Nat) : List PyData := (((List.range m).map (gB b i j)).filter fun l => decide (0 < l)).map nI
theorem rowsL_succ (b : Bar) (i j m : Nat) : rowsL b i j (m + 1) = rowsL b i j m ++ if 0 < gB b i j m then [nI (gB b i j m)] else [] := by
  unfold rowsL
  rw [List.range_succ, List.map_append, List.filter_append, List.map_append]
  congr 1
  by_cases h : 0 < gB b i j m
  · rw [if_pos h, List.map_cons, List.filter_cons_of_pos (by simpa using h)]; rfl
  · rw [if_neg h, List.map_cons, List.filter_cons_of_neg (by simpa using h)]; rfl
theorem rowsL_len (b : Bar) (i j m : Nat) : (rowsL b i j m).length ≤ m := by
  unfold rowsL
  rw [List.length_map]
  refine Nat.le_trans (List.length_filter_le _ _) ?_
  rw [List.length_map, List.length_range]
  exact Nat.le_refl _
theorem c_lbite (D : Dfn K mg "_law_bite" s__law_bite ["bar", "i", "j"]) (m1 : mg "range" = none) (m2 : mg "len" = none) (m3 : mg "tuple" = none) : CLB P w K mg base := by
  refine zfunS D sc__law_bite (fun _ => rfl) (fun x y _ _ e => by rw [aBt_inj e]; exact ⟨rfl, rfl⟩) fun f cdv Ar outer s H E z hy hr => ?_
  obtain ⟨b, i, j⟩ := z
  have hb : okB b := hy
  have hl := hb.1
  have s48 : 48 < sizeLine := by decide
  refine zss_set 3 (ze_lst (ds := []) za_nil) (lt_of rfl) ?_ sc__law_bite.nd
  refine zss_for (vs := [4]) (M := fun t => ∃ r4 r5, t = ⟨[.d (eB b), .d (.int i), .d (.int j), .r 0, r4, r5, .un], [OL (rowsL b i j b.length)]⟩) (zi_rng1 (za_cons (ze_lenT (.d (.tuple (b.map nI))) (za_cons (ze_var 0 rfl) za_nil) m2) za_nil) ⟨by omega, by rw [List.length_map]; omega⟩ m1) 1 (Nat.zero_le _) (Nat.le_refl _) (fun m t => m ≤ b.length ∧ ∃ r4 r5, t = ⟨[.d (eB b), .d (.int i), .d (.int j), .r 0, r4, r5, .un], [OL (rowsL b i j m)]⟩) ⟨Nat.zero_le _, _, _, rfl⟩ (fun m x t hx ⟨hm, r4, r5, ht⟩ => ?_) (fun t ⟨hm, r4, r5, ht⟩ => ⟨r4, r5, by rw [ht, rng_len, List.length_map, Int.toNat_natCast]⟩) (fun t ⟨r4, r5, ht⟩ => ?_) PassesOwn.never
  · subst ht
    rw [List.length_map, Int.toNat_natCast] at hx
    have hmb : m < b.length := by
      have := (List.getElem?_eq_some_iff.mp hx).1
      rwa [rng_len] at this
    rw [rng0_map, List.getElem?_map, List.getElem?_range hmb] at hx
    cases hx
    have g1 : (b.map nI)[m]? = some (nI (b.getD m 0)) := by
      rw [List.getElem?_map, List.getD_eq_getElem?_getD, List.getElem?_eq_getElem hmb]
      rfl
    have h8 := hb.get m
    refine ⟨_, zg_name 4 (lt_of rfl) sc__law_bite.nd, ?_⟩
    refine zss_setLcP (vs := [6]) 5 (fun x => x) (stayP m i j) (ZI.x (zi_rng1 (za_cons (ze_ixT (.d (.tuple (b.map nI))) (atI_nat g1) (ze_var 0 rfl) (ze_var 4 rfl)) za_nil) ⟨by omega, by omega⟩ m1) (show _ = rng 0 (b.getD m 0) by rw [Int.toNat_natCast])) (fun x hx => ?_) (by rw [rng_len]; omega) sc__law_bite.nd (blkOk_by (own := [("x", 6)]) (by kernel_rfl)) (lt_of rfl) ?_
    · obtain ⟨y, hy, rfl⟩ := rng_in0 hx
      exact ⟨_, fun z => zg_name 6 (lt_of rfl) sc__law_bite.nd, rfl, fun z => zts_one (zw_orI (zt_lt (ze_var 4 rfl) (ze_var 1 rfl)) (fun _ => zw_or1 (zt_lt (ze_var 6 rfl) (ze_var 2 rfl)))).t, fun _ z => ze_var 6 rfl⟩
    · have hlen := stay_len b i j m
      refine zss_ifI (k := decide (0 < gB b i j m)) (M := fun t => m + 1 ≤ b.length ∧ ∃ r4 r5, t = ⟨[.d (eB b), .d (.int i), .d (.int j), .r 0, r4, r5, .un], [OL (rowsL b i j (m + 1))]⟩) (zt_k (zt_gt (ze_lenL (.d (.list (((rng 0 (b.getD m 0)).filter (stayP m i j)).map fun x => x))) (za_cons (ze_var 5 rfl) za_nil) m2) ze_int) (by
        rw [hlen, Bool.eq_iff_iff, decide_eq_true_eq, decide_eq_true_eq]
        omega)) (fun h => ?_) (fun h => ?_) fun t ht => zss_nil ht
      · have h := of_decide_eq_true h
        refine zss_app (ze_var 3 rfl) (ZE.i (ze_lenL (.d (.list (((rng 0 (b.getD m 0)).filter (stayP m i j)).map fun x => x))) (za_cons (ze_var 5 rfl) za_nil) m2) (congrArg Int.ofNat hlen)) rfl rfl (by have := rowsL_len b i j m; omega) (zss_nil ⟨by omega, .d (nI m), .d (.list (((rng 0 (b.getD m 0)).filter (stayP m i j)).map fun x => x)), ?_⟩)
        rw [rowsL_succ, if_pos h]
        rfl
      · have h := of_decide_eq_false h
        refine zss_nil ⟨by omega, .d (nI m), .d (.list (((rng 0 (b.getD m 0)).filter (stayP m i j)).map fun x => x)), ?_⟩
        rw [rowsL_succ, if_neg h, List.append_nil]
        rfl
  · subst ht
    refine zss_ret (ze_tupOfL (.r rfl) (za_cons (ze_var 3 rfl) za_nil) m3) ⟨?_, rfl⟩
    show IT.d (eB (bite b i j)) = .d _
    rw [bite_eq]
    rfl
end
end K66

namespace K66
open PySem L2 PyProof.Rows Z
def bad (b : Bar) (z : Nat × Nat) : Bool := z != (0, 0) && lost (bite b z.1 z.2)
def rowZ (b : Bar) (i : Nat) : List (Nat × Nat) := (List.range (b.getD i 0)).map fun j => (i, j)
def curI (b : Bar) (m : Nat) : Bool := !((List.range m).flatMap (rowZ b)).any (bad b)
def curJ (b : Bar) (m j : Nat) : Bool := curI b m && !((List.range j).map fun j => (m, j)).any (bad b)
theorem curI_succ (b : Bar) (m : Nat) : curI b (m + 1) = curJ b m (b.getD m 0) := by
  unfold curI curJ curI rowZ
  rw [List.range_succ, List.flatMap_append, List.any_append, List.flatMap_cons, List.flatMap_nil, List.append_nil, Bool.not_or]
theorem curJ_zero (b : Bar) (m : Nat) : curJ b m 0 = curI b m := by
  unfold curJ
  simp
theorem curJ_succ (b : Bar) (m j : Nat) : curJ b m (j + 1) = (curJ b m j && !bad b (m, j)) := by
  unfold curJ
  rw [List.range_succ, List.map_append, List.any_append, Bool.not_or, Bool.and_assoc]
  simp
theorem curI_all {b : Bar} (h : b.sum ≤ 99) : curI b b.length = lost b := by
  rw [lost_eq h]
  unfold curI bites bites0
  rw [List.any_filter]
  rfl
def gd (n : Nat) (f : PyData → PyData → Prop) : Prop := (∀ k v, f k v → k ∈ UB) ∧ ∀ c, okB c → c.sum ≤ n → ∀ v, (f (eB c) v ↔ v = .bool (lost c))
theorem eB_inj {b c : Bar} (h : eB b = eB c) : b = c := nI_inj (by unfold eB at h; injection h)
theorem gd_fK (n : Nat) : gd n fK := ⟨fun k v ⟨c, h1, h2, _⟩ => by rw [h2]; exact UB_in h1, fun c hc _ v => ⟨fk_fn', fun h => ⟨c, hc, rfl, h⟩⟩⟩
where fk_fn' {c : Bar} {v : PyData} (h : fK (eB c) v) : v = .bool (lost c) := fK_fn h
def FF (f : PyData → PyData → Prop) (b : Bar) (t : Bool) : PyData → PyData → Prop := fun k v => (k = eB b → v = .bool t) ∧ (k ≠ eB b → f k v)
theorem gd_FF {f : PyData → PyData → Prop} {b : Bar} {t : Bool} (hb : okB b) (h : gd b.sum f) {n : Nat} (hn : n < b.sum) : gd n (FF f b t) := by
  refine ⟨fun k v ⟨h1, h2⟩ => ?_, fun c hc hcn v => ?_⟩
  · by_cases e : k = eB b
    · rw [e]; exact UB_in hb
    · exact h.1 k v (h2 e)
  · have ne : eB c ≠ eB b := fun e => by
      have := eB_inj e
      subst this
      omega
    rw [← h.2 c hc (by omega) v]
    exact ⟨fun q => q.2 ne, fun q => ⟨fun e => absurd e ne, fun _ => q⟩⟩
section
variable {P : Program} {w : World} {K : PySem.W.Frag} {mg : Str → Option Value} {base : Heap}
structure AL where
  b : Bar
  f : PyData → PyData → Prop
  D : PyData → Prop
def aL (P : Program) (w : World) : AL → List IT := fun z => [.d (eB z.b), .o (OMs P w z.f z.D)]
def okL (n : Nat) : AL → Prop := fun z => okB z.b ∧ z.b.sum ≤ n ∧ gd z.b.sum z.f
def oL (P : Program) (w : World) : AL → List Own := fun z => [OMs P w z.f z.D]
abbrev CLL (P : Program) (w : World) (K : PySem.W.Frag) (mg : Str → Option Value) (base : Heap) (n : Nat) : Prop :=
  Cal P w K mg base (n + 2) "_law_lost" (preOf (aL P w) (okL n)) (relOf (aL P w) (okL n) (fun z => .d (.bool (lost z.b))) (oL P w))
theorem llost_body (D : Dfn K mg "_law_lost" s__law_lost ["bar", "met"]) (cb : CLB P w K mg base) (m1 : mg "range" = none) (m2 : mg "len" = none) (n : Nat) (ih : ∀ j, n = j + 1 → CLL P w K mg base j) : CLL P w K mg base n := by
  refine zfunS D sc__law_lost (fun _ => rfl) (fun x y _ _ e => by
    have e0 : eB x.b = eB y.b ∧ OMs P w x.f x.D = OMs P w y.f y.D := by simpa [aL] using e
    exact ⟨by rw [eB_inj e0.1], by show [_] = [_]; rw [e0.2]⟩) fun fa cdv Ar outer s H E z hy hr => ?_
  obtain ⟨b, f, DD⟩ := z
  obtain ⟨hb, hn, hg⟩ : okB b ∧ b.sum ≤ n ∧ gd b.sum f := hy
  have hu20 : (Ar.deeper (envOfC (Str.ofString "_law_lost") (defScope s__law_lost) s.heap.objs.size fa cdv)).units + 20 < cLine := Nat.lt_of_le_of_lt (Nat.add_le_add_left (by decide) _) hr.units
  obtain ⟨k1, k2⟩ := key_ok b
  have hl := hb.1
  have hs := hb.sum
  have nd := sc__law_lost.nd
  refine zss_if (M := fun t => ∃ r2 r3, t = ⟨[.d (eB b), .r 0, r2, r3], [OMs P w f fun x => x = eB b ∨ DD x]⟩) (zt_ninS (o := 0) rfl (ze_var 0 rfl) (ze_var 1 rfl) k1 k2 hu20) (fun t ht => ?_) (fun t ht => ?_) (fun t ⟨r2, r3, ht⟩ => ?_)
  · rw [if_pos rfl] at ht
    subst ht
    refine zss_memoS (U := UB) (x := .bool true) ze_bl (ze_var 1 rfl) (ze_var 0 rfl) rfl (FF f b true) (fun k v h hk => ⟨fun e => absurd e hk, fun _ => h⟩) ⟨fun _ => rfl, fun h => absurd rfl h⟩ hg.1 UB_len k1 k2 hu20 ?_
    refine zss_for (vs := [2]) (M := fun t => ∃ r2 r3, t = ⟨[.d (eB b), .r 0, r2, r3], [OMs P w (FF f b (curI b b.length)) fun x => x = eB b ∨ DD x]⟩) (zi_rng1 (za_cons (ze_lenT (.d (.tuple (b.map nI))) (za_cons (ze_var 0 rfl) za_nil) m2) za_nil) ⟨by omega, by rw [List.length_map]; omega⟩ m1) 1 (Nat.le_refl _) (Nat.le_refl _) (fun m t => ∃ r2 r3, t = ⟨[.d (eB b), .r 0, r2, r3], [OMs P w (FF f b (curI b m)) fun x => x = eB b ∨ DD x]⟩) ⟨_, _, rfl⟩ (fun m x t hx ⟨r2, r3, ht⟩ => ?_) (fun t ⟨r2, r3, ht⟩ => ⟨r2, r3, by rw [ht, rng_len, List.length_map, Int.toNat_natCast]⟩) (fun t ⟨r2, r3, ht⟩ => ?_) PassesOwn.never
    · subst ht
      rw [List.length_map, Int.toNat_natCast] at hx
      have hmb : m < b.length := by
        have := (List.getElem?_eq_some_iff.mp hx).1
        rwa [rng_len] at this
      rw [rng0_map, List.getElem?_map, List.getElem?_range hmb] at hx
      cases hx
      have g1 : (b.map nI)[m]? = some (nI (b.getD m 0)) := by
        rw [List.getElem?_map, List.getD_eq_getElem?_getD, List.getElem?_eq_getElem hmb]
        rfl
      have h8 := hb.get m
      refine ⟨_, zg_name 2 (lt_of rfl) nd, ?_⟩
      refine zss_for (vs := [3]) (M := fun t => ∃ r2 r3, t = ⟨[.d (eB b), .r 0, r2, r3], [OMs P w (FF f b (curI b (m + 1))) fun x => x = eB b ∨ DD x]⟩) (ZI.x (zi_rng1 (za_cons (ze_ixT (.d (.tuple (b.map nI))) (atI_nat g1) (ze_var 0 rfl) (ze_var 2 rfl)) za_nil) ⟨by omega, by omega⟩ m1) (show _ = rng 0 (b.getD m 0) by rw [Int.toNat_natCast])) 1 (Nat.le_refl _) (Nat.le_refl _) (fun j t => ∃ r3, t = ⟨[.d (eB b), .r 0, .d (nI m), r3], [OMs P w (FF f b (curJ b m j)) fun x => x = eB b ∨ DD x]⟩) ⟨_, by rw [curJ_zero]; rfl⟩ (fun j x t hx ⟨r3, ht⟩ => ?_) (fun t ⟨r3, ht⟩ => ⟨.d (nI m), r3, by rw [ht, rng_len, curI_succ]⟩) (fun t ht => zss_nil ht) PassesOwn.never
      subst ht
      have hj : j < b.getD m 0 := by
        have := (List.getElem?_eq_some_iff.mp hx).1
        rwa [rng_len] at this
      rw [rng0_map, List.getElem?_map, List.getElem?_range hj] at hx
      cases hx
      have hlt := bite_lt hmb hj
      obtain ⟨n', rfl⟩ : ∃ n', n = n' + 1 := ⟨n - 1, by omega⟩
      refine ⟨_, zg_name 3 (lt_of rfl) nd, ?_⟩
      have hc := curJ_succ b m j
      have hbad : bad b (m, j) = ((decide ((m : Int) > 0) || decide ((j : Int) > 0)) && lost (bite b m j)) := by
        unfold bad
        congr 1
        rw [Bool.eq_iff_iff]
        simp
        omega
      refine zss_ifI (k := (decide ((m : Int) > 0) || decide ((j : Int) > 0)) && (curJ b m j && lost (bite b m j))) (M := fun t => ∃ r3, t = ⟨[.d (eB b), .r 0, .d (nI m), r3], [OMs P w (FF f b (curJ b m (j + 1))) fun x => x = eB b ∨ DD x]⟩)
        (zw_andI (zw_orI (zt_gt (ze_var 2 rfl) ze_int) (fun _ => zw_or1 (zt_gt (ze_var 3 rfl) ze_int))).t fun _ => zw_andI (zt_val (ze_memoS (o := 0) rfl (.inl rfl) (fun y h => h.1 rfl) (ze_var 1 rfl) (ze_var 0 rfl) k1 k2 hu20)) fun _ => zw_and1 (zt_val (ZE.to (ze_callS1 (zd := .bool (lost (bite b m j))) ⟨bite b m j, FF f b (curJ b m j), fun x => x = eB b ∨ DD x⟩ (ih n' rfl) (za_cons (ze_callS (b, m, j) cb (za_cons (ze_var 0 rfl) (za_cons (ze_var 2 rfl) (za_cons (ze_var 3 rfl) za_nil))) hb rfl hr) (za_cons (ze_var 1 rfl) za_nil)) ⟨bite_ok hb, by show (bite b m j).sum ≤ n'; omega, gd_FF hb hg hlt⟩ rfl rfl rfl hr) rfl rfl))).t (fun h => ?_) (fun h => ?_) fun t ht => zss_nil ht
      · refine zss_memoS (U := UB) (x := .bool false) ze_bl (ze_var 1 rfl) (ze_var 0 rfl) rfl (FF f b false) (fun k v h hk => ⟨fun e => absurd e hk, fun _ => h.2 hk⟩) ⟨fun _ => rfl, fun h => absurd rfl h⟩ (gd_FF (n := 0) hb hg (by omega)).1 UB_len k1 k2 hu20 ?_
        have e : curJ b m (j + 1) = false := by
          rw [hc, hbad]
          revert h
          cases (decide ((m : Int) > 0) || decide ((j : Int) > 0)) <;> cases curJ b m j <;> cases lost (bite b m j) <;> simp
        refine zss_wkO (j := 0) rfl (OMs.le (fun _ _ h => h) (D' := fun x => x = eB b ∨ DD x) fun _ h => .inr h) (zss_nil ⟨.d (nI j), ?_⟩)
        rw [e]
        rfl
      · refine zss_nil ⟨.d (nI j), ?_⟩
        have e : curJ b m (j + 1) = curJ b m j := by
          rw [hc, hbad]
          revert h
          cases (decide ((m : Int) > 0) || decide ((j : Int) > 0)) <;> cases curJ b m j <;> cases lost (bite b m j) <;> simp
        rw [e]
        rfl
    · subst ht
      rw [curI_all (by omega)]
      refine zss_wkO (j := 0) rfl (OMs.le (f' := f) (fun k v h => ?_) fun _ h => h) (zss_nil ⟨_, _, rfl⟩)
      by_cases e : k = eB b
      · rw [e, h.1 e]
        exact (hg.2 b hb (Nat.le_refl _) _).mpr rfl
      · exact h.2 e
  · rw [if_neg Bool.false_ne_true] at ht
    subst ht
    exact zss_nil ⟨_, _, rfl⟩
  · subst ht
    exact zss_ret (ZE.wkO (o := 0) (ze_memoS (o := 0) rfl (.inl rfl) (fun y h => (hg.2 b hb (Nat.le_refl _) y).mp h) (ze_var 1 rfl) (ze_var 0 rfl) k1 k2 hu20) rfl (OMs.le (fun _ _ h => h) fun _ h => .inr h)) ⟨rfl, rfl⟩
theorem c_llost (D : Dfn K mg "_law_lost" s__law_lost ["bar", "met"]) (cb : CLB P w K mg base) (m1 : mg "range" = none) (m2 : mg "len" = none) : ∀ n : Nat, CLL P w K mg base n
  | 0 => llost_body D cb m1 m2 0 fun j h => by cases h
  | n + 1 => llost_body D cb m1 m2 (n + 1) fun j h => by cases h; exact c_llost D cb m1 m2 n
end
end K66

namespace K66
open PySem L2 PyProof.Rows Z
def dI (ds : List PyData) (k : Nat) : Int := match ds.getD k .none with
  | .int i => i
  | _ => 0
def descP (ds : List PyData) (k : Nat) : Bool := decide (dI ds (k + 1) ≤ dI ds k)
def descB (ds : List PyData) : Bool := ((List.range (ds.length - 1)).map (descP ds)).all id
def isB : PyData → Bool
  | .tuple ds => (decide ((1 : Int) ≤ (ds.length : Nat)) && decide (((ds.length : Nat) : Int) ≤ 6)) && ((ds.map (isN 1 8)).all id && descB ds)
  | _ => false
theorem isB_tup (ds : List PyData) : isB (.tuple ds) = ((decide ((1 : Int) ≤ (ds.length : Nat)) && decide (((ds.length : Nat) : Int) ≤ 6)) && ((ds.map (isN 1 8)).all id && descB ds)) := rfl
theorem isB_not {x : PyData} (h : isTup x = false) : isB x = false := by
  cases x <;> first | rfl | (simp [isTup] at h)
theorem dI_get {ds : List PyData} {k : Nat} {lo hi : Int} (h : (ds.map (isN lo hi)).all id = true) (hk : k < ds.length) : ds[k]? = some (.int (dI ds k)) := by
  have e : ds[k]? = some ds[k] := List.getElem?_eq_getElem hk
  have h1 : isN lo hi ds[k] = true := List.all_eq_true.mp h _ (List.mem_map.mpr ⟨ds[k], List.getElem_mem hk, rfl⟩)
  unfold dI
  rw [List.getD_eq_getElem?_getD, e]
  show some ds[k] = some (.int (match ds[k] with | .int i => i | _ => 0))
  revert h1
  generalize ds[k] = x
  intro h1
  cases x <;> first | rfl | (simp [isN] at h1)
def okV : PyData → Prop
  | .tuple ds => ds.length < 1000
  | _ => True
def aX : PyData → List IT := fun x => [.d x]
theorem aX_inj {x y : PyData} (e : aX x = aX y) : x = y := by simpa [aX] using e
def descX (ds : List PyData) : PyData → Bool
  | .int k => descP ds k.toNat
  | _ => false
theorem tup_or (x : PyData) : (∃ ds, x = .tuple ds) ∨ isTup x = false := by
  cases x <;> first | exact .inl ⟨_, rfl⟩ | exact .inr rfl
section
variable {P : Program} {w : World} {K : PySem.W.Frag} {mg : Str → Option Value} {base : Heap}
structure MX (mg : Str → Option Value) : Prop where
  rows : ∃ t, mg "MAX_ROWS" = some (.int 6 t)
  width : ∃ t, mg "MAX_WIDTH" = some (.int 8 t)
abbrev CN (P : Program) (w : World) (K : PySem.W.Frag) (mg : Str → Option Value) (base : Heap) : Prop := Cal P w K mg base 1 "is_number" (preOf aN (fun _ => True)) (relOf aN (fun _ => True) (fun z => .d (.bool (isN z.2.1 z.2.2 z.1))) (fun _ => []))
theorem c_isbar (D : Dfn K mg "is_bar" s_is_bar ["value"]) (cn : CN P w K mg base) (m : SameM mg) (mx : MX mg) : Cal P w K mg base 2 "is_bar" (preOf aX okV) (relOf aX okV (fun x => .d (.bool (isB x))) (fun _ => [])) := by
  refine zfunS D sc_is_bar (fun _ => rfl) (fun x y _ _ e => by rw [aX_inj e]; exact ⟨rfl, rfl⟩) fun f cdv Ar outer s H E x hy hr => ?_
  obtain ⟨⟨t6, h6⟩, ⟨t8, h8⟩⟩ := mx
  have nd := sc_is_bar.nd
  have r6 : RelV (.int 6) (.int 6 t6) := ⟨t6, rfl⟩
  have r8 : RelV (.int 8) (.int 8 t8) := ⟨t8, rfl⟩
  rcases tup_or x with ⟨ds, rfl⟩ | hx
  · have hl : ds.length < 1000 := hy
    have s48 : 1000 < sizeLine := by decide
    refine zss_ifRet (k := !isTup (.tuple ds) || !(decide ((1 : Int) ≤ (ds.length : Nat)) && decide (((ds.length : Nat) : Int) ≤ 6))) (zw_orI (zt_notI (zt_isi (.d _) (kit_tup _) (ze_var 0 rfl) m.isi m.tup)) fun _ => zw_or1 (zt_notI (zt_chI op_le op_le ze_int (ze_lenT (.d (.tuple ds)) (za_cons (ze_var 0 rfl) za_nil) m.len) (ze_glob h6 r6 (show flat (.int _) (.int _) from rfl))))).t (fun h => ?_) (fun h => ?_)
    · refine zss_ret ze_bl ⟨?_, rfl⟩
      have h : (decide ((1 : Int) ≤ (ds.length : Nat)) && decide (((ds.length : Nat) : Int) ≤ 6)) = false := by
        revert h
        cases (decide ((1 : Int) ≤ (ds.length : Nat)) && decide (((ds.length : Nat) : Int) ≤ 6)) <;> simp [isTup]
      show IT.d (.bool (isB _)) = _
      rw [isB_tup]
      rw [h]
      rfl
    · have h : (decide ((1 : Int) ≤ (ds.length : Nat)) && decide (((ds.length : Nat) : Int) ≤ 6)) = true := by
        revert h
        cases (decide ((1 : Int) ≤ (ds.length : Nat)) && decide (((ds.length : Nat) : Int) ≤ 6)) <;> simp [isTup]
      refine zss_ifRet (zt_notI (zt_val (ze_all (bs := ds.map (isN 1 8)) (.d _) (za_cons (ZE.x (ze_lcM (vs := [1]) (fun x => .bool (isN 1 8 x)) (zi_tup (ze_var 0 rfl)) (fun x hx => ⟨_, fun z => zg_name 1 (lt_of rfl) nd, rfl, fun z => ze_callS (x, 1, 8) cn (za_cons (ze_var 1 rfl) (za_cons ze_int (za_cons (ze_glob h8 r8 (show flat (.int _) (.int _) from rfl)) za_nil))) trivial rfl hr⟩) (by omega) nd (blkOk_by (own := [("length", 1)]) (by kernel_rfl))) (congrArg PyData.list (List.map_map (f := isN 1 8) (g := PyData.bool) (l := ds)).symm)) za_nil) m.all))) (fun h2 => ?_) (fun h2 => ?_)
      · refine zss_ret ze_bl ⟨?_, rfl⟩
        have h2 : (ds.map (isN 1 8)).all id = false := by simpa using h2
        show IT.d (.bool (isB _)) = _
        rw [isB_tup]
        rw [h, h2]
        rfl
      · have h2 : (ds.map (isN 1 8)).all id = true := by
          revert h2
          cases (ds.map (isN 1 8)).all id <;> simp
        have h3 : 1 ≤ ds.length := by
          simp only [Bool.and_eq_true, decide_eq_true_eq] at h
          omega
        refine zss_ret (ze_all (bs := (List.range (ds.length - 1)).map (descP ds)) (.d _) (za_cons (ZE.x (ze_lcM (vs := [2]) (fun x => .bool (descX ds x)) (zi_rng1 (za_cons (ze_sub (ze_lenT (.d (.tuple ds)) (za_cons (ze_var 0 rfl) za_nil) m.len) ze_int) za_nil) ⟨by omega, by omega⟩ m.range) (fun x hx => ?_) (by rw [rng_len]; omega) nd (blkOk_by (own := [("k", 2)]) (by kernel_rfl))) (by
          rw [show (((ds.length : Nat) : Int) - 1).toNat = ds.length - 1 by omega, rng0_map, List.map_map, List.map_map]
          rfl)) za_nil) m.all) ⟨?_, rfl⟩
        · rw [show (((ds.length : Nat) : Int) - 1).toNat = ds.length - 1 by omega] at hx
          obtain ⟨k, hk, rfl⟩ := rng_in0 hx
          have g1 := dI_get h2 (show k < ds.length by omega)
          have g2 := dI_get h2 (show k + 1 < ds.length by omega)
          exact ⟨_, fun z => zg_name 2 (lt_of rfl) nd, rfl, fun z => ze_ge (ze_ixT (.d (.tuple ds)) (atI_nat g1) (ze_var 0 rfl) (ze_var 2 rfl)) (ze_ixT (.d (.tuple ds)) (atI_nat g2) (ze_var 0 rfl) (ZE.i (ze_add (ze_var 2 rfl) ze_int) (by omega)))⟩
        · show IT.d (.bool (isB _)) = _
          rw [isB_tup]
          rw [h, h2]
          rfl
  · refine zss_ifRet (k := !isTup x || false) (zw_orI (zt_notI (zt_isi (.d _) (kit_tup x) (ze_var 0 rfl) m.isi m.tup)) (fun h => absurd h (by rw [hx]; decide))).t (fun h => ?_) (fun h => absurd h (by rw [hx]; decide))
    refine zss_ret ze_bl ⟨?_, rfl⟩
    show IT.d (.bool (isB _)) = _
    rw [isB_not hx]
end
end K66

namespace K66
open PySem L2 PyProof.Rows Z
def lenB (ds : List PyData) : Bool := decide (((ds.length : Nat) : Int) < 1) || (decide (((ds.length : Nat) : Int) > 6) || !(ds.map (isN 1 8)).all id)
def dscX (ds : List PyData) : PyData → Bool
  | .int k => !descP ds k.toNat
  | _ => false
theorem any_not (l : List Bool) : (l.map fun b => !b).any id = !l.all id := by
  induction l with
  | nil => rfl
  | cons b l ih =>
    rw [List.map_cons, List.any_cons, List.all_cons, ih]
    cases b <;> rfl
theorem isB_len (ds : List PyData) : isB (.tuple ds) = (!lenB ds && descB ds) := by
  rw [isB_tup]
  unfold lenB
  rw [← Bool.and_assoc]
  congr 1
  rw [Bool.not_or, Bool.not_or, Bool.not_not, Bool.and_assoc]
  congr 1
  · rw [Bool.eq_iff_iff]; simp
  · congr 1
    rw [Bool.eq_iff_iff]; simp
section
variable {P : Program} {w : World} {K : PySem.W.Frag} {mg : Str → Option Value} {base : Heap}
theorem c_lisbar (D : Dfn K mg "_law_is_bar" s__law_is_bar ["value"]) (m : SameM mg) (ma : mg "any" = none) : Cal P w K mg base 1 "_law_is_bar" (preOf aX okV) (relOf aX okV (fun x => .d (.bool (isB x))) (fun _ => [])) := by
  refine zfunS D sc__law_is_bar (fun _ => rfl) (fun x y _ _ e => by rw [aX_inj e]; exact ⟨rfl, rfl⟩) fun f cdv Ar outer s H E x hy hr => ?_
  have nd := sc__law_is_bar.nd
  rcases tup_or x with ⟨ds, rfl⟩ | hx
  · have hl : ds.length < 1000 := hy
    have s48 : 1000 < sizeLine := by decide
    refine zss_ifRet (k := !isTup (.tuple ds) || lenB ds) (zw_orI (zt_notI (zt_isi (.d _) (kit_tup _) (ze_var 0 rfl) m.isi m.tup)) fun _ => zw_orI (zt_lt (ze_lenT (.d (.tuple ds)) (za_cons (ze_var 0 rfl) za_nil) m.len) ze_int) fun _ => zw_orI (zt_gt (ze_lenT (.d (.tuple ds)) (za_cons (ze_var 0 rfl) za_nil) m.len) ze_int) fun _ => zw_or1 (zt_notI (zt_val (ze_all (bs := ds.map (isN 1 8)) (.d _) (za_cons (ZE.x (ze_lcM (vs := [1]) (fun x => .bool (isN 1 8 x)) (zi_tup (ze_var 0 rfl)) (fun x hx => ⟨_, fun z => zg_name 1 (lt_of rfl) nd, rfl, fun z => ?_⟩) (by omega) nd (blkOk_by (own := [("k", 1)]) (by kernel_rfl))) (congrArg PyData.list (List.map_map (f := isN 1 8) (g := PyData.bool) (l := ds)).symm)) za_nil) m.all)))).t (fun h => ?_) (fun h => ?_)
    · by_cases hd : ∃ i, x = .int i
      · obtain ⟨i, rfl⟩ := hd
        exact ZE.x (ze_and (ze_isi (.d _) (kit_int _) (ze_var 1 rfl) m.isi m.int) fun _ => ze_and (ze_not (ze_isi (.d _) (kit_bl _) (ze_var 1 rfl) m.isi m.bl)) fun _ => ze_and (ze_le ze_int (ze_var 1 rfl)) fun _ => ze_one (ze_le (ze_var 1 rfl) ze_int)) rfl
      · refine ZE.x (ze_and (j := false) (ze_isi (.d _) (kit_int x) (ze_var 1 rfl) m.isi m.int) fun h1 => ZE.x (ze_and (j := false) (ze_not (ze_isi (.d _) (kit_bl x) (ze_var 1 rfl) m.isi m.bl)) fun h2 => ?_) (by rw [Bool.and_false])) ?_
        · cases x <;> first | exact absurd ⟨_, rfl⟩ hd | (simp [Z.isInt, isBl] at h1 h2)
        · cases x <;> first | exact absurd ⟨_, rfl⟩ hd | rfl | (simp [isN])
    · refine zss_ret ze_bl ⟨?_, rfl⟩
      have h : lenB ds = true := by simpa [isTup] using h
      show IT.d (.bool (isB _)) = _
      rw [isB_len, h]
      rfl
    · have h : lenB ds = false := by simpa [isTup] using h
      have h0 := h
      unfold lenB at h
      simp only [Bool.or_eq_false_iff, decide_eq_false_iff_not] at h
      have h2 : (ds.map (isN 1 8)).all id = true := by
        have := h.2.2
        revert this
        cases (ds.map (isN 1 8)).all id <;> simp
      have h3 : 1 ≤ ds.length := by omega
      refine zss_ret (ze_not (ze_any (bs := ((List.range (ds.length - 1)).map (descP ds)).map fun b => !b) (.d _) (za_cons (ZE.x (ze_lcM (vs := [1]) (fun x => .bool (dscX ds x)) (zi_rng1 (za_cons (ze_sub (ze_lenT (.d (.tuple ds)) (za_cons (ze_var 0 rfl) za_nil) m.len) ze_int) za_nil) ⟨by omega, by omega⟩ m.range) (fun x hx => ?_) (by rw [rng_len]; omega) nd (blkOk_by (own := [("k", 1)]) (by kernel_rfl))) (by
          rw [show (((ds.length : Nat) : Int) - 1).toNat = ds.length - 1 by omega, rng0_map, List.map_map, List.map_map, List.map_map]
          rfl)) za_nil) ma)) ⟨?_, rfl⟩
      · rw [show (((ds.length : Nat) : Int) - 1).toNat = ds.length - 1 by omega] at hx
        obtain ⟨k, hk, rfl⟩ := rng_in0 hx
        have g1 := dI_get h2 (show k < ds.length by omega)
        have g2 := dI_get h2 (show k + 1 < ds.length by omega)
        refine ⟨_, fun z => zg_name 1 (lt_of rfl) nd, rfl, fun z => ZE.x (ze_lt (ze_ixT (.d (.tuple ds)) (atI_nat g1) (ze_var 0 rfl) (ze_var 1 rfl)) (ze_ixT (.d (.tuple ds)) (atI_nat g2) (ze_var 0 rfl) (ZE.i (ze_add (ze_var 1 rfl) ze_int) (by omega)))) ?_⟩
        show PyData.bool (decide (dI ds k < dI ds (k + 1))) = .bool (!descP ds (k : Int).toNat)
        rw [Int.toNat_natCast]
        unfold descP
        congr 1
        rw [Bool.eq_iff_iff]
        simp
      · show IT.d (.bool (isB _)) = _
        rw [isB_len, h0, any_not]
        unfold descB
        rw [Bool.not_not]
        rfl
  · refine zss_ifRet (k := !isTup x || false) (zw_orI (zt_notI (zt_isi (.d _) (kit_tup x) (ze_var 0 rfl) m.isi m.tup)) (fun h => absurd h (by rw [hx]; decide))).t (fun h => ?_) (fun h => absurd h (by rw [hx]; decide))
    refine zss_ret ze_bl ⟨?_, rfl⟩
    show IT.d (.bool (isB _)) = _
    rw [isB_not hx]
end
end K66

namespace K66
open PySem L2 PyProof.Rows Z
def barL : Nat → Bx → Nat → Bar → Bar × Bx
  | 0, b, _, acc => (acc, b)
  | n + 1, b, most, acc => barL n (drawB b most).2 ((drawB b most).1 + 1).toNat (acc ++ [((drawB b most).1 + 1).toNat])
def barB (b : Bx) : Bar × Bx := barL ((drawB b 4).1 + 1).toNat (drawB b 4).2 6 []
theorem barL_ok : ∀ (n : Nat) (b : Bx) (most : Nat) (acc : Bar), BOK b → 1 ≤ most → most ≤ 6 → (∀ x ∈ acc, 1 ≤ x ∧ x ≤ 6) → BOK (barL n b most acc).2 ∧ (∀ x ∈ (barL n b most acc).1, 1 ≤ x ∧ x ≤ 6) ∧ (barL n b most acc).1.length = acc.length + n
  | 0, b, most, acc, hb, _, _, ha => ⟨hb, ha, rfl⟩
  | n + 1, b, most, acc, hb, h1, h6, ha => by
    obtain ⟨d, b', e, d0, d1, hb'⟩ := draw_ex (m := (most : Int)) hb (by omega)
    unfold barL
    rw [e]
    obtain ⟨q1, q2, q3⟩ := barL_ok n b' (d + 1).toNat (acc ++ [(d + 1).toNat]) hb' (by omega) (by omega) (fun x hx => by
      rcases List.mem_append.mp hx with h | h
      · exact ha x h
      · have : x = (d + 1).toNat := by simpa using h
        omega)
    exact ⟨q1, q2, by rw [q3, List.length_append]; simp; omega⟩
theorem barB_ok {b : Bx} (hb : BOK b) : BOK (barB b).2 ∧ okB (barB b).1 ∧ (barB b).1 ≠ [] ∧ (barB b).1.length ≤ 4 ∧ ∀ x ∈ (barB b).1, 1 ≤ x ∧ x ≤ 6 := by
  obtain ⟨d, b', e, d0, d1, hb'⟩ := draw_ex (m := 4) hb (by decide)
  unfold barB
  rw [e]
  obtain ⟨q1, q2, q3⟩ := barL_ok (d + 1).toNat b' 6 [] hb' (by decide) (by decide) (fun x hx => by cases hx)
  rw [List.length_nil] at q3
  show BOK (barL (d + 1).toNat b' 6 []).2 ∧ okB (barL (d + 1).toNat b' 6 []).1 ∧ (barL (d + 1).toNat b' 6 []).1 ≠ [] ∧ (barL (d + 1).toNat b' 6 []).1.length ≤ 4 ∧ ∀ x ∈ (barL (d + 1).toNat b' 6 []).1, 1 ≤ x ∧ x ≤ 6
  refine ⟨q1, ⟨by omega, fun x hx => by have := q2 x hx; omega⟩, fun h => ?_, by omega, q2⟩
  rw [h] at q3
  simp at q3
  omega
def aBar : Bx → List IT := fun b => [.o (OBox b), .d (.int 4), .d (.int 6)]
section
variable {P : Program} {w : World} {K : PySem.W.Frag} {mg : Str → Option Value} {base : Heap}
abbrev CD (P : Program) (w : World) (K : PySem.W.Frag) (mg : Str → Option Value) (base : Heap) : Prop := Cal P w K mg base 2 "_law_draw" (preOf aDr okDr) (relOf aDr okDr rDraw oDraw)
theorem c_bar (D : Dfn K mg "_law_bar" s__law_bar ["box", "rows", "width"]) (cd : CD P w K mg base) (m1 : mg "range" = none) (m2 : mg "tuple" = none) : Cal P w K mg base 3 "_law_bar" (preOf aBar BOK) (relOf aBar BOK (fun b => .d (eB (barB b).1)) (fun b => [OBox (barB b).2])) := by
  refine zfunS D sc__law_bar (fun _ => rfl) (fun x y _ _ e => by
    have e1 : OBox x = OBox y := by simpa [aBar] using e
    have := obox_inj K e1
    subst this
    exact ⟨rfl, rfl⟩) fun f cdv Ar outer s H E b hy hr => ?_
  have nd := sc__law_bar.nd
  have s48 : 48 < sizeLine := by decide
  obtain ⟨d, b', e, d0, d1, hb'⟩ := draw_ex (m := 4) hy (by decide)
  obtain ⟨N, hN⟩ : ∃ N : Nat, (d + 1).toNat = N := ⟨_, rfl⟩
  have eB0 : barB b = barL N b' 6 [] := by
    unfold barB
    rw [e, ← hN]
  refine zss_par2 3 4 (za_cons (ze_lst (ds := []) za_nil) (za_cons (ze_var 2 rfl) za_nil)) (lt_of rfl) (lt_of rfl) ?_ nd
  refine zss_for (vs := [5]) (M := fun t => ∃ r4 r5, t = ⟨[.r 0, .d (.int 4), .d (.int 6), .r 1, r4, r5], [OBox (barB b).2, OL ((barB b).1.map nI)]⟩) (ZI.x (zi_rng1 (za_cons (ze_add ze_int (ze_draw cd e (za_cons (ze_var 0 rfl) (za_cons (ze_var 1 rfl) za_nil)) rfl hy hr)) za_nil) ⟨by omega, by omega⟩ m1) (show _ = rng 0 N by rw [← hN, Int.add_comm])) 2 (show 1 ≤ 2 by decide) (Nat.le_refl _)
    (fun m t => ∃ (bx : Bx) (most : Nat) (acc : Bar) (r5 : SD), BOK bx ∧ 1 ≤ most ∧ most ≤ 6 ∧ m ≤ N ∧ acc.length = m ∧ barL (N - m) bx most acc = barB b ∧ t = ⟨[.r 0, .d (.int 4), .d (.int 6), .r 1, .d (.int most), r5], [OBox bx, OL (acc.map nI)]⟩)
    ⟨b', 6, [], .un, hb', by decide, by decide, Nat.zero_le _, rfl, by rw [eB0]; rfl, rfl⟩ (fun m x t hx ⟨bx, most, acc, r5, h1, h2, h3, h4, h5, h6, ht⟩ => ?_) (fun t ⟨bx, most, acc, r5, h1, h2, h3, h4, h5, h6, ht⟩ => ?_) (fun t ⟨r4, r5, ht⟩ => ?_) PassesOwn.never
  · subst ht
    have hm : m < N := by
      have := (List.getElem?_eq_some_iff.mp hx).1
      rwa [rng_len] at this
    obtain ⟨d', b2, e2, d2, d3, hb2⟩ := draw_ex (m := (most : Int)) h1 (by omega)
    refine ⟨_, zg_name 5 (lt_of rfl) nd, ?_⟩
    refine zss_set 4 (ZE.i (ze_add ze_int (ze_draw cd e2 (za_cons (ze_var 0 rfl) (za_cons (ze_var 4 rfl) za_nil)) rfl h1 hr (by omega) (Nat.lt_of_le_of_lt (m := 6) (by omega) (by decide)))) (show 1 + d' = (((d' + 1).toNat : Nat) : Int) by omega)) (lt_of rfl) ?_ nd
    refine zss_app (ze_var 3 rfl) (ze_var 4 rfl) rfl rfl (by rw [List.length_map]; omega) (zss_nil ⟨b2, (d' + 1).toNat, acc ++ [(d' + 1).toNat], x |> SD.d, hb2, by omega, by omega, by omega, by rw [List.length_append, h5]; rfl, ?_, ?_⟩)
    · rw [← h6]
      obtain ⟨k, hk⟩ : ∃ k, N - m = k + 1 := ⟨N - m - 1, by omega⟩
      rw [hk, show N - (m + 1) = k by omega]
      conv => rhs; unfold barL
      rw [e2]
    · rw [List.map_append]
      rfl
  · rw [rng_len] at h6
    rw [Nat.sub_self] at h6
    have e1 : (acc, bx) = barB b := h6
    exact ⟨_, r5, by rw [ht, ← e1]⟩
  · subst ht
    exact zss_ret (ze_tupOfL (.r rfl) (za_cons (ze_var 3 rfl) za_nil) m2) ⟨rfl, rfl⟩
end
end K66

namespace K66
open PySem L2 PyProof.Rows Z
/-! ### all bars -/
def lastN (r : Bar) (n : Nat) : Nat := match r with
  | [] => n
  | _ => r.getLast?.getD 0
def ext1 (n : Nat) (r : Bar) : List Bar := (List.range (lastN r n)).map fun k => r ++ [k + 1]
def rowsOf (n : Nat) : Nat → List Bar
  | 0 => [[]]
  | m + 1 => (rowsOf n m).flatMap (ext1 n)
def upTo (n : Nat) : Nat → List Bar
  | 0 => []
  | m + 1 => upTo n m ++ rowsOf n (m + 1)
theorem rows_ok (n : Nat) (hn : n ≤ 5) : ∀ m : Nat, ∀ r ∈ rowsOf n m, r.length = m ∧ ∀ x ∈ r, 1 ≤ x ∧ x ≤ 5
  | 0, r, h => by
    have : r = [] := by simpa [rowsOf] using h
    subst this
    exact ⟨rfl, fun x hx => by cases hx⟩
  | m + 1, r, h => by
    obtain ⟨q, hq, hr⟩ := List.mem_flatMap.mp h
    obtain ⟨k, hk, rfl⟩ := List.mem_map.mp hr
    obtain ⟨h1, h2⟩ := rows_ok n hn m q hq
    have hk : k < lastN q n := List.mem_range.mp hk
    have hl : lastN q n ≤ 5 := by
      unfold lastN
      split
      · exact hn
      · cases e : q.getLast? with
        | none => exact Nat.zero_le _
        | some x => exact (h2 x (List.mem_of_getLast? e)).2
    refine ⟨by rw [List.length_append, h1]; rfl, fun x hx => ?_⟩
    rcases List.mem_append.mp hx with h | h
    · exact h2 x h
    · have : x = k + 1 := by simpa using h
      omega
theorem rows_len (n : Nat) (hn : n ≤ 5) : ∀ m : Nat, (rowsOf n m).length ≤ 5 ^ m
  | 0 => Nat.le_refl 1
  | m + 1 => by
    have := flat_le (l := rowsOf n m) (g := ext1 n) (c := 5) fun r hr => by
      unfold ext1
      rw [List.length_map, List.length_range]
      obtain ⟨h1, h2⟩ := rows_ok n hn m r hr
      unfold lastN
      split
      · exact hn
      · cases e : r.getLast? with
        | none => exact Nat.zero_le _
        | some x => exact (h2 x (List.mem_of_getLast? e)).2
    have h := rows_len n hn m
    show ((rowsOf n m).flatMap (ext1 n)).length ≤ _
    rw [Nat.pow_succ]
    omega
theorem upTo_len (n : Nat) (hn : n ≤ 5) : ∀ m : Nat, m ≤ 3 → (upTo n m).length ≤ 5 + 25 + 125 := by
  intro m hm
  have h1 := rows_len n hn 1
  have h2 := rows_len n hn 2
  have h3 := rows_len n hn 3
  have : m = 0 ∨ m = 1 ∨ m = 2 ∨ m = 3 := by omega
  rcases this with rfl | rfl | rfl | rfl
  · exact Nat.zero_le _
  · show ([] ++ rowsOf n 1).length ≤ _
    rw [List.nil_append]
    omega
  · show (([] ++ rowsOf n 1) ++ rowsOf n 2).length ≤ _
    rw [List.nil_append, List.length_append]
    omega
  · show ((([] ++ rowsOf n 1) ++ rowsOf n 2) ++ rowsOf n 3).length ≤ _
    rw [List.nil_append, List.length_append, List.length_append]
    omega
theorem upTo_ok (n : Nat) (hn : n ≤ 5) : ∀ m : Nat, m ≤ 3 → ∀ r ∈ upTo n m, okB r ∧ r ≠ []
  | 0, _, r, h => by cases h
  | m + 1, hm, r, h => by
    rcases List.mem_append.mp h with h | h
    · exact upTo_ok n hn m (by omega) r h
    · obtain ⟨h1, h2⟩ := rows_ok n hn (m + 1) r h
      refine ⟨⟨by omega, fun x hx => by have := h2 x hx; omega⟩, fun e => ?_⟩
      rw [e] at h1
      simp at h1
def aMN : Nat × Nat → List IT := fun z => [.d (nI z.1), .d (nI z.2)]
def okMN : Nat × Nat → Prop := fun z => z.1 ≤ 3 ∧ z.2 ≤ 5
theorem aMN_inj {x y : Nat × Nat} (e : aMN x = aMN y) : x = y := by
  obtain ⟨x1, x2⟩ := x
  obtain ⟨y1, y2⟩ := y
  have e0 : (x1 : Int) = y1 ∧ (x2 : Int) = y2 := by simpa [aMN] using e
  rw [Int.ofNat.inj e0.1, Int.ofNat.inj e0.2]
theorem ext1_map (n : Nat) (r : Bar) : (rng 1 (lastN r n)).map (fun k => PyData.tuple (r.map nI ++ [k])) = (ext1 n r).map eB := by
  unfold rng ext1 eB
  rw [List.map_map, List.map_map]
  refine List.map_congr_left fun k _ => ?_
  show PyData.tuple (r.map nI ++ [.int (1 + (k : Int))]) = .tuple ((r ++ [k + 1]).map nI)
  rw [List.map_append]
  show PyData.tuple (r.map nI ++ [.int (1 + (k : Int))]) = .tuple (r.map nI ++ [.int ((k + 1 : Nat) : Int)])
  congr 3
  congr 1
  omega
def tupF (x k : PyData) : PyData := match x with
  | .tuple ds => .tuple (ds ++ [k])
  | _ => .none
def natOf : PyData → Nat
  | .int i => i.toNat
  | _ => 0
def esR (n : Nat) (x : PyData) : List PyData := match x with
  | .tuple ds => rng 1 (lastN (ds.map natOf) n)
  | _ => []
theorem natOf_map (r : Bar) : (r.map nI).map natOf = r := by
  rw [List.map_map]
  have : (natOf ∘ nI) = id := funext fun k => Int.toNat_natCast k
  rw [this, List.map_id]
theorem rows_succ (n m : Nat) : (((rowsOf n m).map eB).filter fun _ => true).flatMap (fun x => ((esR n x).filter fun _ => true).map (tupF x)) = (rowsOf n (m + 1)).map eB := by
  rw [List.filter_eq_self.mpr (fun _ _ => rfl)]
  show _ = ((rowsOf n m).flatMap (ext1 n)).map eB
  rw [List.map_flatMap, List.flatMap_map]
  congr 1
  funext r
  rw [List.filter_eq_self.mpr (fun _ _ => rfl), ← ext1_map]
  show (rng 1 (lastN ((r.map nI).map natOf) n)).map _ = _
  rw [natOf_map]
  rfl
end K66

namespace K66
open PySem L2 PyProof.Rows Z
theorem atI_last {ds : List PyData} {x : PyData} (h : ds.getLast? = some x) : atI ds (-1) = some x := by
  cases ds with
  | nil => cases h
  | cons d ds =>
    unfold atI ixN
    rw [if_neg (by decide), if_pos (by rw [List.length_cons]; omega)]
    show (d :: ds)[((-1 : Int) + ((d :: ds).length : Nat)).toNat]? = some x
    rw [List.getLast?_eq_getElem?] at h
    rw [← h]
    congr 1
    rw [List.length_cons]
    omega
theorem eB_alike (r q : Bar) : PySem.W.alike (eB r) (eB q) = true := by
  have : ∀ l m : List Nat, PySem.W.alikeAll (l.map nI) (m.map nI) = true := by
    intro l
    induction l with
    | nil => intro m; simp [PySem.W.alikeAll]
    | cons x l ih =>
      intro m
      cases m with
      | nil => simp [PySem.W.alikeAll]
      | cons y m => simp [PySem.W.alikeAll, PySem.W.alike, ih]
  unfold eB
  simp [PySem.W.alike, this]
theorem eB_depth (r : Bar) : (eB r).depth = 1 := by
  have : ∀ l : List Nat, PyData.depthAll (l.map nI) = 0 := by
    intro l
    induction l with
    | nil => rfl
    | cons x l ih => simp [PyData.depthAll, PyData.depth, ih]
  unfold eB
  simp [PyData.depth, this]
theorem last_at {r : Bar} (h : r ≠ []) : atI (r.map nI) (-1) = some (nI (r.getLast?.getD 0)) := by
  refine atI_last ?_
  rw [List.getLast?_map]
  cases e : r.getLast? with
  | none => exact absurd (List.getLast?_eq_none_iff.mp e) h
  | some x => rfl
section
variable {P : Program} {w : World} {K : PySem.W.Frag} {mg : Str → Option Value} {base : Heap}
abbrev CT (P : Program) (w : World) (K : PySem.W.Frag) (mg : Str → Option Value) (base : Heap) : Prop := Cal P w K mg base 1 "bars_to" (preOf aMN okMN) (relOf aMN okMN (fun z => .d (.list (srt ((upTo z.2 z.1).map eB)))) (fun _ => []))
theorem c_to (D : Dfn K mg "bars_to" s_bars_to ["m", "n"]) (m1 : mg "range" = none) (m2 : mg "sorted" = none) : CT P w K mg base := by
  refine zfunS D sc_bars_to (fun _ => rfl) (fun x y _ _ e => by rw [aMN_inj e]; exact ⟨rfl, rfl⟩) fun f cdv Ar outer s H E z hy hr => ?_
  obtain ⟨m, n⟩ := z
  obtain ⟨hm, hn⟩ : m ≤ 3 ∧ n ≤ 5 := hy
  have nd := sc_bars_to.nd
  have hu := hr.units
  have sz : 100000 < sizeLine := by decide
  refine zss_par2 2 3 (za_cons (ze_lst (ds := []) za_nil) (za_cons (ze_lstD (ds := [.tuple []]) (za_cons (ze_tup (ds := []) za_nil) za_nil)) za_nil)) (lt_of rfl) (lt_of rfl) ?_ nd
  refine zss_for (vs := [4]) (M := fun t => ∃ r3 r4, t = ⟨[.d (nI m), .d (nI n), .r 0, r3, r4, .un, .un], [OL ((upTo n m).map eB)]⟩) (ZI.x (zi_rng1 (za_cons (ze_var 0 rfl) za_nil) ⟨by omega, by omega⟩ m1) (show _ = rng 0 m by rw [Int.toNat_natCast])) 1 (Nat.zero_le _) (Nat.le_refl _)
    (fun i t => i ≤ m ∧ ∃ r4, t = ⟨[.d (nI m), .d (nI n), .r 0, .d (.list ((rowsOf n i).map eB)), r4, .un, .un], [OL ((upTo n i).map eB)]⟩) ⟨Nat.zero_le _, .un, rfl⟩ (fun i x t hx ⟨hi, r4, ht⟩ => ?_) (fun t ⟨_, r4, ht⟩ => ⟨.d (.list ((rowsOf n m).map eB)), r4, by rw [ht, rng_len]⟩) (fun t ⟨r3, r4, ht⟩ => ?_) PassesOwn.never
  · subst ht
    have him : i < m := by
      have := (List.getElem?_eq_some_iff.mp hx).1
      rwa [rng_len] at this
    refine ⟨_, zg_name 4 (lt_of rfl) nd, ?_⟩
    have hlast : ∀ r ∈ rowsOf n i, lastN r n ≤ 5 := fun r hr => by
      obtain ⟨h1, h2⟩ := rows_ok n hn i r hr
      unfold lastN
      split
      · exact hn
      · cases e : r.getLast? with
        | none => exact Nat.zero_le _
        | some x => exact (h2 x (List.mem_of_getLast? e)).2
    have hes : ∀ r : Bar, esR n (eB r) = rng 1 (lastN r n) := fun r => by
      show rng 1 (lastN ((r.map nI).map natOf) n) = _
      rw [natOf_map]
    refine zss_setLc2P (vs := [5, 6]) (vs1 := [6]) 3 (esR n) tupF (fun _ => true) (fun _ _ => true) (zi_list (ze_var 3 rfl)) (fun x hx => ?_) ?_ nd (blkOk_by (own := [("bar", 5), ("k", 6)]) (by kernel_rfl)) (lt_of rfl) ?_
    · obtain ⟨r, hr2, rfl⟩ := List.mem_map.mp hx
      have hL := hlast r hr2
      obtain ⟨h1, h2⟩ := rows_ok n hn i r hr2
      refine ⟨_, fun z => zg_name 5 (lt_of rfl) nd, rfl, fun z => zts_nil, fun _ => ⟨fun z => ?_, fun y hy2 => ?_⟩⟩
      · refine ZI.x (zi_rng2 (za_cons ze_int (za_cons (ZE.i (ze_add (ze_iteI (i := (r.getLast?.getD 0 : Nat)) (j := (n : Nat)) (zt_tru (ze_var 5 rfl) (.d (eB r)) trivial) (fun h => ze_ixT (.d (.tuple (r.map nI))) (last_at fun e => by rw [e] at h; cases h) (ze_var 5 rfl) (ze_neg ze_int)) (fun _ => ze_var 1 rfl)) ze_int) (show _ = ((lastN r n : Nat) : Int) + 1 from ?_)) za_nil)) ⟨by omega, by omega, by omega, by omega⟩ m1) ?_
        · cases r with
          | nil => rfl
          | cons a r => rfl
        · rw [hes]
          congr 1
          omega
      · rw [hes] at hy2
        obtain ⟨k, hk, rfl⟩ := rng_in hy2
        refine ⟨_, fun z => zg_name 6 (lt_of rfl) nd, rfl, fun z => zts_nil, fun _ z => ZE.x (ze_cat (ds := r.map nI) (es := [.int (1 + (k : Nat))]) (by rw [List.length_map]; simp; omega) (ze_var 5 rfl) (ze_tup (ds := [.int (1 + (k : Nat))]) (za_cons (ze_var 6 rfl) za_nil))) rfl⟩
    · have := flat_le (l := (rowsOf n i).map eB) (g := esR n) (c := 5) fun x hx => by
        obtain ⟨r, hr2, rfl⟩ := List.mem_map.mp hx
        rw [hes, rng_len]
        exact hlast r hr2
      rw [List.length_map] at this
      have h5 := rows_len n hn i
      have : 5 ^ i ≤ 5 ^ 3 := Nat.pow_le_pow_right (by decide) (by omega)
      omega
    · rw [rows_succ]
      refine zss_augL 2 rfl rfl (ze_var 3 rfl) rfl ?_ (zss_nil ⟨by omega, SD.d x, ?_⟩) nd
      · rw [List.length_map, List.length_map]
        have h5 := rows_len n hn (i + 1)
        have : 5 ^ (i + 1) ≤ 5 ^ 3 := Nat.pow_le_pow_right (by decide) (by omega)
        have := upTo_len n hn i (by omega)
        omega
      · show _ = (⟨_, [OL ((upTo n i ++ rowsOf n (i + 1)).map eB)]⟩ : S)
        rw [List.map_append]
        rfl
  · subst ht
    have ok := upTo_ok n hn m hm
    refine zss_ret (ze_sorted (.r rfl) (za_cons (ze_var 2 rfl) za_nil) (fun d hd d' hd' => ?_) (.inl fun d hd => ?_) (fun d hd => ?_) m2) ⟨rfl, rfl⟩
    · obtain ⟨r, _, rfl⟩ := List.mem_map.mp hd
      obtain ⟨q, _, rfl⟩ := List.mem_map.mp hd'
      exact eB_alike r q
    · obtain ⟨r, hr2, rfl⟩ := List.mem_map.mp hd
      cases r with
      | nil => exact absurd rfl (ok _ hr2).2
      | cons a r => exact ⟨nI a, r.map nI, rfl⟩
    · obtain ⟨r, _, rfl⟩ := List.mem_map.mp hd
      exact roomS hu (by rw [eB_depth]; decide)
end
end K66

namespace Z
open PySem L2 PyProof.Rows

/-! ### a list of its own that is no longer changed: from now on a datum -/
section
variable {X : Cx} {rest : List Stmt} {s s1 : S} {P : Po} {ds : List PyData} {o : Nat}
def ODead : Own where
  holds := fun _ _ _ _ fp => fp = []
  stay := fun h _ _ => h
theorem OK.dead {K : PySem.W.Frag} {l : List En} {H : Hp} {v : V} (h : OK K l H) : OK K ((IT.o ODead, some v) :: l) H := by
  obtain ⟨F, L, e, g⟩ := h
  exact ⟨F, (((IT.o ODead, some v), []) :: L), by rw [List.map_cons, e], g.oCons rfl List.nodup_nil (fun a ha => by cases ha) (fun a ha => by cases ha)⟩
theorem Sat.slots {K : PySem.W.Frag} {σ : L2.St} {ρ : List V} {T : List En} {H : Hp} {v : V} {x : PyData} : ∀ (is : List Nat) {s : S}, is.Nodup → (∀ i ∈ is, s.e[i]? = some (.r o)) → Sat K s σ ρ ((IT.d x, some v) :: T) H → ρ[o]? = some v → Sat K ⟨is.foldl (fun e i => e.set i (.d x)) s.e, s.R⟩ σ ρ ((IT.d x, some v) :: T) H
  | [], s, _, _, g, _ => g
  | i :: is, s, nd, hi, g, hv => by
    have h0 := hi i List.mem_cons_self
    obtain ⟨u, e1, e2⟩ := g.al i o h0
    have eu : u = v := Option.some.inj (e2.symm.trans hv)
    subst eu
    obtain ⟨u', e3, _, ok⟩ := g.ok.dup (x := x) (v := some u) (List.mem_append_left _ List.mem_cons_self)
    cases e3
    have g2 : Sat K s σ ρ ((itOf (SD.d x), some u) :: ((IT.d x, some u) :: T)) H := ⟨g.le, g.lr, g.al, ok⟩
    have g3 := Sat.put (i := i) (r := .d x) (List.getElem?_eq_some_iff.mp h0).1 trivial g2
    rw [set_self e1] at g3
    have nd' := List.nodup_cons.mp nd
    exact Sat.slots is (s := ⟨s.e.set i (.d x), s.R⟩) nd'.2 (fun k hk => by
      show (s.e.set i (.d x))[k]? = _
      rw [List.getElem?_set_ne (fun e => nd'.1 (by rw [e]; exact hk))]
      exact hi k (List.mem_cons_of_mem _ hk)) g3 hv
theorem zss_frz (is : List Nat) (nd : is.Nodup) (hi : ∀ i ∈ is, s.e[i]? = some (.r o)) (ho : s.R[o]? = some (OL ds)) (lw : low o (is.foldl (fun e i => e.set i (.d (.list ds))) s.e)) (hb : P.b ≤ o) (k : ZSs X rest ⟨is.foldl (fun e i => e.set i (.d (.list ds))) s.e, s.R.take o⟩ P) : ZSs X rest s P := PSs.imp k fun D σ H ⟨t, T, ρ, e1, hb0, g, q⟩ => by
  subst e1
  obtain ⟨v, hv, ok, _⟩ := g.obj ho
  obtain ⟨F, f⟩ := ok.fz
  have a1 := OK.dead (v := v) f.freeze
  have g2 := ZE.frz.back2 (T2 := (IT.d (.list ds), some v) :: T) g ho hv a1
  have g3 := Sat.slots (s := ⟨t.e, t.R.set o ODead⟩) is nd hi g2 hv
  have g4 := (g3.trim (n := o) (wkE_refl _) lw).tdrop
  rw [show (⟨is.foldl (fun e i => e.set i (.d (.list ds))) t.e, t.R.set o ODead⟩ : S).R.take o = t.R.take o from List.take_set_of_le (Nat.le_refl _)] at g4
  refine ⟨_, T, ρ.take o, rfl, ?_, g4, ?_⟩
  · rw [List.length_take]
    have := (List.getElem?_eq_some_iff.mp hv).1
    omega
  · rw [List.take_take, Nat.min_eq_left hb]
    exact q
end
end Z

namespace K66
open PySem L2 PyProof.Rows Z
theorem rows_le (n : Nat) : ∀ m : Nat, ∀ r ∈ rowsOf n m, ∀ x ∈ r, x ≤ n
  | 0, r, h, x, hx => by
    have : r = [] := by simpa [rowsOf] using h
    subst this
    cases hx
  | m + 1, r, h, x, hx => by
    obtain ⟨q, hq, hr⟩ := List.mem_flatMap.mp h
    obtain ⟨k, hk, rfl⟩ := List.mem_map.mp hr
    have h2 := rows_le n m q hq
    have hk : k < lastN q n := List.mem_range.mp hk
    rcases List.mem_append.mp hx with h | h
    · exact h2 x h
    · have e : x = k + 1 := by simpa using h
      have hl : lastN q n ≤ n := by
        unfold lastN
        split
        · exact Nat.le_refl _
        · cases e : q.getLast? with
          | none => exact Nat.zero_le _
          | some x => exact h2 x (List.mem_of_getLast? e)
      omega
theorem lastN_le {n m : Nat} {r : Bar} (h : r ∈ rowsOf n m) : lastN r n ≤ n := by
  unfold lastN
  split
  · exact Nat.le_refl _
  · cases e : r.getLast? with
    | none => exact Nat.zero_le _
    | some x => exact rows_le n m r h x (List.mem_of_getLast? e)
def lastP (r : Bar) : PyData → Bool
  | .int k => decide (((r.length : Nat) : Int) = 0) || decide (k ≤ ((r.getLast?.getD 0 : Nat) : Int))
  | _ => false
theorem filter_range_le (n l : Nat) (h : l ≤ n) : (List.range n).filter (fun k => decide (k < l)) = List.range l := by
  induction n with
  | zero =>
    have : l = 0 := by omega
    subst this
    rfl
  | succ n ih =>
    rw [List.range_succ, List.filter_append]
    by_cases e : l = n + 1
    · subst e
      rw [List.filter_eq_self.mpr (fun k hk => by have := List.mem_range.mp hk; simp; omega), List.filter_cons_of_pos (by simp), List.range_succ]
      rfl
    · rw [ih (by omega), List.filter_cons_of_neg (by simp; omega)]
      simp
theorem ext1_filter {n m : Nat} {r : Bar} (h : r ∈ rowsOf n m) : ((rng 1 n).filter (lastP r)).map (tupF (eB r)) = (ext1 n r).map eB := by
  rw [← ext1_map]
  have hl := lastN_le h
  have e : (rng 1 n).filter (lastP r) = rng 1 (lastN r n) := by
    unfold rng
    rw [List.filter_map, ← filter_range_le n (lastN r n) hl]
    congr 1
    refine List.filter_congr fun k hk => ?_
    have hk := List.mem_range.mp hk
    show (decide (((r.length : Nat) : Int) = 0) || decide ((1 : Int) + (k : Nat) ≤ ((r.getLast?.getD 0 : Nat) : Int))) = decide (k < lastN r n)
    cases r with
    | nil =>
      show (true || _) = decide (k < n)
      rw [Bool.true_or, decide_eq_true hk]
    | cons a r =>
      show (decide ((((a :: r).length : Nat) : Int) = 0) || decide ((1 : Int) + (k : Nat) ≤ (((a :: r).getLast?.getD 0 : Nat) : Int))) = decide (k < (a :: r).getLast?.getD 0)
      rw [decide_eq_false (by rw [List.length_cons]; omega), Bool.false_or, Bool.eq_iff_iff, decide_eq_true_eq, decide_eq_true_eq]
      omega
  rw [e]
  rfl
end K66

namespace K66
open PySem L2 PyProof.Rows Z
section
variable {P : Program} {w : World} {K : PySem.W.Frag} {mg : Str → Option Value} {base : Heap}
abbrev CA (P : Program) (w : World) (K : PySem.W.Frag) (mg : Str → Option Value) (base : Heap) : Prop := Cal P w K mg base 1 "_law_all" (preOf aMN okMN) (relOf aMN okMN (fun z => .d (.list (srt ((upTo z.2 z.1).map eB)))) (fun _ => []))
def oS : Option PyData → SD
  | none => .un
  | some d => .d d
def partL (n i j : Nat) : List PyData := (((rowsOf n i).take j).flatMap (ext1 n)).map eB
theorem c_all (D : Dfn K mg "_law_all" s__law_all ["m", "n"]) (m1 : mg "range" = none) (m2 : mg "sorted" = none) (m3 : mg "len" = none) : CA P w K mg base := by
  refine zfunS D sc__law_all (fun _ => rfl) (fun x y _ _ e => by rw [aMN_inj e]; exact ⟨rfl, rfl⟩) fun f cdv Ar outer s H E z hy hr => ?_
  obtain ⟨m, n⟩ := z
  obtain ⟨hm, hn⟩ : m ≤ 3 ∧ n ≤ 5 := hy
  have nd := sc__law_all.nd
  have hu := hr.units
  have sz : 100000 < sizeLine := by decide
  refine zss_par2 2 3 (za_cons (ze_lst (ds := []) za_nil) (za_cons (ze_lstD (ds := [.tuple []]) (za_cons (ze_tup (ds := []) za_nil) za_nil)) za_nil)) (lt_of rfl) (lt_of rfl) ?_ nd
  refine zss_for (vs := [4]) (M := fun t => ∃ r3 r4 r5 r6, t = ⟨[.d (nI m), .d (nI n), .r 0, r3, r4, r5, r6, .un], [OL ((upTo n m).map eB)]⟩) (ZI.x (zi_rng1 (za_cons (ze_var 0 rfl) za_nil) ⟨by omega, by omega⟩ m1) (show _ = rng 0 m by rw [Int.toNat_natCast])) 1 (Nat.zero_le _) (Nat.le_refl _)
    (fun i t => i ≤ m ∧ ∃ r4 r5 r6, t = ⟨[.d (nI m), .d (nI n), .r 0, .d (.list ((rowsOf n i).map eB)), oS r4, oS r5, oS r6, .un], [OL ((upTo n i).map eB)]⟩) ⟨Nat.zero_le _, none, none, none, rfl⟩ (fun i x t hx ⟨hi, r4, r5, r6, ht⟩ => ?_) (fun t ⟨_, r4, r5, r6, ht⟩ => ⟨.d (.list ((rowsOf n m).map eB)), oS r4, oS r5, oS r6, by rw [ht, rng_len]⟩) (fun t ⟨r3, r4, r5, r6, ht⟩ => ?_) PassesOwn.never
  · subst ht
    have him : i < m := by
      have := (List.getElem?_eq_some_iff.mp hx).1
      rwa [rng_len] at this
    have h5 : (rowsOf n i).length ≤ 125 := by
      have h5 := rows_len n hn i
      have : 5 ^ i ≤ 5 ^ 3 := Nat.pow_le_pow_right (by decide) (by omega)
      omega
    have ext5 : ∀ r ∈ rowsOf n i, (ext1 n r).length ≤ 5 := fun r hr => by
      unfold ext1
      rw [List.length_map, List.length_range]
      have := lastN_le hr
      omega
    refine ⟨_, zg_name 4 (lt_of rfl) nd, ?_⟩
    refine zss_set 5 (ze_lst (ds := []) za_nil) (lt_of rfl) ?_ nd
    refine zss_for (vs := [6]) (M := fun t => ∃ r6, t = ⟨[.d (nI m), .d (nI n), .r 0, .d (.list ((rowsOf n i).map eB)), .d x, .r 1, oS r6, .un], [OL ((upTo n i).map eB), OL ((rowsOf n (i + 1)).map eB)]⟩) (zi_list (ze_var 3 rfl)) 2 (show 1 ≤ 2 by decide) (Nat.le_refl _)
      (fun j t => ∃ r6, t = ⟨[.d (nI m), .d (nI n), .r 0, .d (.list ((rowsOf n i).map eB)), .d x, .r 1, oS r6, .un], [OL ((upTo n i).map eB), OL (partL n i j)]⟩) ⟨r6, rfl⟩ (fun j y t hy2 ⟨r6, ht⟩ => ?_) (fun t ⟨r6, ht⟩ => ⟨r6, ?_⟩) (fun t ⟨r6, ht⟩ => ?_) PassesOwn.never
    · subst ht
      rw [List.getElem?_map] at hy2
      obtain ⟨r, hrj, rfl⟩ := Option.map_eq_some_iff.mp hy2
      have hmem := List.mem_of_getElem? hrj
      refine ⟨_, zg_name 6 (lt_of rfl) nd, ?_⟩
      obtain ⟨h1, h2⟩ := rows_ok n hn i r hmem
      have pl : (partL n i j).length ≤ 5 * (rowsOf n i).length := by
        unfold partL
        rw [List.length_map]
        have := flat_le (l := (rowsOf n i).take j) (g := ext1 n) (c := 5) fun r hr => ext5 r (List.mem_of_mem_take hr)
        rw [List.length_take] at this
        omega
      refine zss_ext (ze_var 5 rfl) (ZE.x (ze_lcP (vs := [7]) (tupF (eB r)) (lastP r) (ZI.x (zi_rng2 (za_cons ze_int (za_cons (ze_add (ze_var 1 rfl) ze_int) za_nil)) ⟨by omega, by omega, by omega, by omega⟩ m1) (show _ = rng 1 n by congr 1; omega)) (fun y hy3 => ?_) (by rw [rng_len]; omega) nd (blkOk_by (own := [("k", 7)]) (by kernel_rfl))) (congrArg PyData.list (ext1_filter hmem))) rfl rfl (.d _) (by rw [List.length_map]; have := ext5 r hmem; omega) (zss_nil ⟨some (eB r), ?_⟩)
      · obtain ⟨k, hk, rfl⟩ := rng_in hy3
        refine ⟨_, fun z => zg_name 7 (lt_of rfl) nd, rfl, fun z => zts_one (zt_k (zw_orI (zt_eqI (ze_lenT (.d (.tuple (r.map nI))) (za_cons (ze_var 6 rfl) za_nil) m3) ze_int) (fun h => zw_or1 (zt_le (ze_var 7 rfl) (ze_ixT (.d (.tuple (r.map nI))) (last_at fun e => ?_) (ze_var 6 rfl) (ze_neg ze_int))))).t ?_), fun _ z => ZE.x (ze_cat (ds := r.map nI) (es := [.int (1 + (k : Nat))]) (by rw [List.length_map]; simp; omega) (ze_var 6 rfl) (ze_tup (ds := [.int (1 + (k : Nat))]) (za_cons (ze_var 7 rfl) za_nil))) rfl⟩
        · rw [e] at h
          simp at h
        · rw [List.length_map]
          show _ = (decide (((r.length : Nat) : Int) = 0) || _)
          congr 1
      · unfold partL
        rw [List.take_add_one, hrj, Option.toList, List.flatMap_append, List.map_append, List.flatMap_cons, List.flatMap_nil, List.append_nil]
        rfl
    · rw [ht, List.length_map]
      unfold partL
      rw [List.take_length]
      rfl
    · subst ht
      refine zss_set 3 (ze_var 5 rfl) (lt_of rfl) ?_ nd
      refine zss_frz (o := 1) (ds := (rowsOf n (i + 1)).map eB) [3, 5] (by decide) (fun k hk => ?_) rfl ?_ (show 1 ≤ 1 by decide) ?_
      · simp at hk
        rcases hk with rfl | rfl <;> rfl
      · cases r6 <;> simp [low, oS]
      · refine zss_ext (ze_var 2 rfl) (ze_var 3 rfl) rfl rfl (.d _) ?_ (zss_nil ⟨by omega, some x, some (.list ((rowsOf n (i + 1)).map eB)), r6, ?_⟩)
        · rw [List.length_map, List.length_map]
          have h5 := rows_len n hn (i + 1)
          have : 5 ^ (i + 1) ≤ 5 ^ 3 := Nat.pow_le_pow_right (by decide) (by omega)
          have := upTo_len n hn i (by omega)
          omega
        · show _ = (⟨_, [OL ((upTo n i ++ rowsOf n (i + 1)).map eB)]⟩ : S)
          rw [List.map_append]
          rfl
  · subst ht
    have ok := upTo_ok n hn m hm
    refine zss_ret (ze_sorted (.r rfl) (za_cons (ze_var 2 rfl) za_nil) (fun d hd d' hd' => ?_) (.inl fun d hd => ?_) (fun d hd => ?_) m2) ⟨rfl, rfl⟩
    · obtain ⟨r, _, rfl⟩ := List.mem_map.mp hd
      obtain ⟨q, _, rfl⟩ := List.mem_map.mp hd'
      exact eB_alike r q
    · obtain ⟨r, hr2, rfl⟩ := List.mem_map.mp hd
      cases r with
      | nil => exact absurd rfl (ok _ hr2).2
      | cons a r => exact ⟨nI a, r.map nI, rfl⟩
    · obtain ⟨r, _, rfl⟩ := List.mem_map.mp hd
      exact roomS hu (by rw [eB_depth]; decide)
end
end K66

namespace K66
open PySem L2 PyProof.Rows Z
section
variable {P : Program} {w : World} {K : PySem.W.Frag} {mg : Str → Option Value} {base : Heap}
def lostP : PyData → Bool
  | .tuple ds => lost (ds.map natOf)
  | _ => false
theorem lostP_eq (b : Bar) : lostP (eB b) = lost b := by
  show lost ((b.map nI).map natOf) = lost b
  rw [natOf_map]
abbrev CLo (P : Program) (w : World) (K : PySem.W.Frag) (mg : Str → Option Value) (base : Heap) : Prop := Cal P w K mg base 51 "lost_bars" (preOf aMN okMN) (relOf aMN okMN (fun z => .d (.tuple ((srt ((upTo z.2 z.1).map eB)).filter lostP))) (fun _ => []))
theorem c_losts (D : Dfn K mg "lost_bars" s_lost_bars ["m", "n"]) (ck : CK P w K mg base 48) (ct : CT P w K mg base) (m1 : mg "tuple" = none) : CLo P w K mg base := by
  refine zfunS D sc_lost_bars (fun _ => rfl) (fun x y _ _ e => by rw [aMN_inj e]; exact ⟨rfl, rfl⟩) fun f cdv Ar outer s H E z hy hr => ?_
  obtain ⟨m, n⟩ := z
  obtain ⟨hm, hn⟩ : m ≤ 3 ∧ n ≤ 5 := hy
  have nd := sc_lost_bars.nd
  have sz : 100000 < sizeLine := by decide
  have ok := upTo_ok n hn m hm
  refine zss_set 2 (ze_newS fK) (lt_of rfl) ?_ nd
  refine zss_ret (ZE.x (ze_tupOfL (.d _) (za_cons (ze_lcP (vs := [3]) (fun x => x) lostP (zi_list (ze_callS (m, n) ct (za_cons (ze_var 0 rfl) (za_cons (ze_var 1 rfl) za_nil)) ⟨hm, hn⟩ rfl hr)) (fun x hx => ?_) ?_ nd (blkOk_by (own := [("bar", 3)]) (by kernel_rfl))) za_nil) m1) (by rw [List.map_id'])) ⟨rfl, rfl⟩
  · have hx2 := (srt_perm _).mem_iff.mp hx
    obtain ⟨r, hr2, rfl⟩ := List.mem_map.mp hx2
    refine ⟨_, fun z' => zg_name 3 (lt_of rfl) nd, rfl, fun z' => zts_one (zt_k (zt_val (ZE.to (ze_callS1 (zd := .bool (lost r)) r ck (za_cons (ze_var 3 rfl) (za_cons (ze_var 2 rfl) za_nil)) ⟨(ok r hr2).1, (ok r hr2).1.sum⟩ rfl rfl rfl hr) rfl rfl)) (lostP_eq r).symm), fun _ z' => ze_var 3 rfl⟩
  · rw [(srt_perm _).length_eq, List.length_map]
    show (upTo n m).length < sizeLine
    have := upTo_len n hn m hm
    omega
end
end K66

namespace K66
open PySem L2 PyProof.Rows Z
def pickI (i : Int) : List PyData := [.int (i + 1), .int (i - 1), .int 0, .bool (PyData.eqv (.int i) (.int 1)), .none, .str (toString i), .tuple [.int i], .int (i + 2)]
def bentI (b : Bx) (i : Int) : PyData × Bx := ((pickI i).getD (drawB b 8).1.toNat .none, (drawB b 8).2)
def aBI : Bx × Int → List IT := fun z => [.o (OBox z.1), .d (.int z.2)]
def okBI : Bx × Int → Prop := fun z => BOK z.1 ∧ 0 ≤ z.2 ∧ z.2 ≤ 8
section
variable {P : Program} {w : World} {K : PySem.W.Frag} {mg : Str → Option Value} {base : Heap}
abbrev CBI (P : Program) (w : World) (K : PySem.W.Frag) (mg : Str → Option Value) (base : Heap) : Prop := Cal P w K mg base 3 "_law_bent" (preOf aBI okBI) (relOf aBI okBI (fun z => .d (bentI z.1 z.2).1) (fun z => [OBox (bentI z.1 z.2).2]))
theorem c_bentI (D : Dfn K mg "_law_bent" s__law_bent ["box", "value"]) (cd : CD P w K mg base) (m : SameM mg) : CBI P w K mg base := by
  refine zfunS D sc__law_bent (fun _ => rfl) (fun x y _ _ e => by
    obtain ⟨x1, x2⟩ := x
    obtain ⟨y1, y2⟩ := y
    have e0 : OBox x1 = OBox y1 ∧ x2 = y2 := by simpa [aBI] using e
    have := obox_inj K e0.1
    subst this
    rw [e0.2]
    exact ⟨rfl, rfl⟩) fun f cdv Ar outer s H E z hy hr => ?_
  obtain ⟨b, i⟩ := z
  obtain ⟨hb, h0, h8⟩ : BOK b ∧ 0 ≤ i ∧ i ≤ 8 := hy
  have nd := sc__law_bent.nd
  have hu := hr.units
  refine zss_ifRet (k := false) (zw_andI (k := isTup (.int i)) (j := false) (zt_isi (.d _) (kit_tup _) (ze_var 1 rfl) m.isi m.tup) (fun h => nomatch h)).t (fun h => nomatch h) (fun _ => ?_)
  obtain ⟨d, b', e, d0, d1, hb'⟩ := draw_ex (m := 8) hb (by decide)
  refine zss_set 3 (ze_draw cd e (za_cons (ze_var 0 rfl) (za_cons ze_int za_nil)) rfl hb hr) (lt_of rfl) ?_ nd
  refine zss_ifRet (k := isTup (.int i)) (zt_isi (.d _) (kit_tup _) (ze_var 1 rfl) m.isi m.tup) (fun h => nomatch h) (fun _ => ?_)
  refine zss_ifRet (k := Z.isInt (.int i) && !isBl (.int i)) (zw_andI (zt_isi (.d _) (kit_int _) (ze_var 1 rfl) m.isi m.int) (fun _ => zw_and1 (zt_notI (zt_isi (.d _) (kit_bl _) (ze_var 1 rfl) m.isi m.bl)))).t (fun _ => ?_) (fun h => nomatch h)
  obtain ⟨k, hk, rfl⟩ : ∃ k : Nat, k < 8 ∧ d = k := ⟨d.toNat, by omega, by omega⟩
  have g1 : (pickI i)[k]? = some ((pickI i).getD k .none) := by
    rw [List.getD_eq_getElem?_getD, List.getElem?_eq_getElem (show k < (pickI i).length from hk)]
    rfl
  refine zss_ret (ze_ixL (.d (.list (pickI i))) (atI_nat g1) (ze_lstD (ds := pickI i) (za_cons (ze_add (ze_var 1 rfl) ze_int) (za_cons (ze_sub (ze_var 1 rfl) ze_int) (za_cons ze_int (za_cons (ze_eqP (.d _) (.d _) (ze_var 1 rfl) ze_int rfl rfl (roomE hu (by simp [PyData.depth]))) (za_cons ze_non (za_cons (ze_strI (Nat.lt_of_le_of_lt (m := 3) ?_ (by decide)) (za_cons (ze_var 1 rfl) za_nil) m.str) (za_cons (ze_tup (ds := [.int i]) (za_cons (ze_var 1 rfl) za_nil)) (za_cons (ze_add (ze_var 1 rfl) ze_int) za_nil))))))))) (ze_var 3 rfl)) ⟨?_, ?_⟩
  · have : i = 0 ∨ i = 1 ∨ i = 2 ∨ i = 3 ∨ i = 4 ∨ i = 5 ∨ i = 6 ∨ i = 7 ∨ i = 8 := by omega
    rcases this with rfl | rfl | rfl | rfl | rfl | rfl | rfl | rfl | rfl <;> decide
  · show IT.d (bentI b i).1 = _
    unfold bentI
    rw [e]
    rfl
  · show _ = [OBox (bentI b i).2]
    unfold bentI
    rw [e]
    rfl
end
end K66

namespace K66
open PySem L2 PyProof.Rows Z
theorem cut_last {ds : List PyData} : cut ds none (some (-1)) = ds.dropLast := by
  unfold cut
  rw [HT.sIx_none, List.drop_zero, Nat.sub_zero, List.dropLast_eq_take]
  congr 1
  show (if (-1 : Int) < 0 then ((-1 : Int) + (ds.length : Nat)).toNat else min (-1 : Int).toNat ds.length) = _
  rw [if_pos (by decide)]
  omega
def pickT (l : List PyData) : List PyData := [.tuple (l ++ l.take 1), .tuple (l.drop 1), .tuple l.reverse, .tuple (l ++ [.int 0]), .tuple [.tuple l], .tuple l.dropLast, .none, .tuple (l ++ [.tuple [.str "left", .int 0]])]
def bentT (b : Bx) (r : Bar) : PyData × Bx :=
  if 0 < (drawB b 5).1 then
    let a := drawB (drawB b 5).2 (r.length : Nat)
    let v := bentI a.2 (r.getD a.1.toNat 0 : Nat)
    (.tuple ((r.map nI).take a.1.toNat ++ [v.1] ++ (r.map nI).drop (a.1.toNat + 1)), v.2)
  else
    let p := drawB (drawB b 5).2 8
    ((pickT (r.map nI)).getD p.1.toNat .none, p.2)
def aBT : Bx × Bar → List IT := fun z => [.o (OBox z.1), .d (eB z.2)]
def okBT : Bx × Bar → Prop := fun z => BOK z.1 ∧ okB z.2 ∧ z.2 ≠ []
section
variable {P : Program} {w : World} {K : PySem.W.Frag} {mg : Str → Option Value} {base : Heap}
abbrev CBT (P : Program) (w : World) (K : PySem.W.Frag) (mg : Str → Option Value) (base : Heap) : Prop := Cal P w K mg base 4 "_law_bent" (preOf aBT okBT) (relOf aBT okBT (fun z => .d (bentT z.1 z.2).1) (fun z => [OBox (bentT z.1 z.2).2]))
theorem c_bentT (D : Dfn K mg "_law_bent" s__law_bent ["box", "value"]) (cd : CD P w K mg base) (ci : CBI P w K mg base) (m : SameM mg) : CBT P w K mg base := by
  refine zfunS D sc__law_bent (fun _ => rfl) (fun x y _ _ e => by
    obtain ⟨x1, x2⟩ := x
    obtain ⟨y1, y2⟩ := y
    have e0 : OBox x1 = OBox y1 ∧ eB x2 = eB y2 := by simpa [aBT] using e
    have := obox_inj K e0.1
    subst this
    rw [eB_inj e0.2]
    exact ⟨rfl, rfl⟩) fun f cdv Ar outer s H E z hy hr => ?_
  obtain ⟨b, r⟩ := z
  obtain ⟨hb, ho, hne⟩ : BOK b ∧ okB r ∧ r ≠ [] := hy
  have nd := sc__law_bent.nd
  have hu := hr.units
  have s48 : 48 < sizeLine := by decide
  have hl := ho.1
  have hp : 0 < r.length := List.length_pos_iff.mpr hne
  obtain ⟨d, b1, e, d0, d1, hb1⟩ := draw_ex (m := 5) hb (by decide)
  refine zss_ifRet (k := decide (d > 0)) (s1 := ⟨[.r 0, .d (eB r), .un, .un], [OBox b1]⟩) (zw_and (zt_isi (.d (.tuple (r.map nI))) (kit_tup _) (ze_var 1 rfl) m.isi m.tup) (fun t ⟨_, e1⟩ => by
      subst e1
      exact zw_and (zt_gt (ze_lenT (.d (.tuple (r.map nI))) (za_cons (ze_var 1 rfl) za_nil) m.len) ze_int) (fun t ⟨_, e1⟩ => by
        subst e1
        exact zw_and1 (zt_gt (ZE.to (ze_draw cd e (za_cons (ze_var 0 rfl) (za_cons ze_int za_nil)) rfl hb hr) rfl rfl) ze_int)) (fun t ⟨e1, _⟩ => absurd e1.symm (by rw [List.length_map]; simp; omega))) (fun t ⟨e1, _⟩ => nomatch e1)).t (fun h => ?_) (fun h => ?_)
  · have h : 0 < d := of_decide_eq_true h
    obtain ⟨a, b2, e2, a0, a1, hb2⟩ := draw_ex (m := ((r.length : Nat) : Int)) hb1 (by omega)
    obtain ⟨k, hk, rfl⟩ : ∃ k : Nat, k < r.length ∧ a = k := ⟨a.toNat, by omega, by omega⟩
    have g1 : (r.map nI)[k]? = some (nI (r.getD k 0)) := by
      rw [List.getElem?_map, List.getD_eq_getElem?_getD, List.getElem?_eq_getElem hk]
      rfl
    have h8 := ho.get k
    refine zss_set 2 (ze_draw cd e2 (za_cons (ze_var 0 rfl) (za_cons (ZE.i (ze_lenT (.d (.tuple (r.map nI))) (za_cons (ze_var 1 rfl) za_nil) m.len) (by rw [List.length_map])) za_nil)) rfl hb1 hr (by omega) (Nat.lt_of_le_of_lt (m := 6) (by omega) (by decide))) (lt_of rfl) ?_ nd
    refine zss_ret (ze_cat (ds := (r.map nI).take k ++ [(bentI b2 (r.getD k 0 : Nat)).1]) (es := (r.map nI).drop (k + 1)) ?_ (ze_cat (ds := (r.map nI).take k) (es := [(bentI b2 (r.getD k 0 : Nat)).1]) ?_ (ZE.x (ze_slT (.d _) (ze_var 1 rfl) zp_none (zp_some (ze_var 2 rfl))) (by rw [cut_hi])) (ze_tup (ds := [(bentI b2 (r.getD k 0 : Nat)).1]) (za_cons (ze_callS1 (b2, ((r.getD k 0 : Nat) : Int)) ci (za_cons (ze_var 0 rfl) (za_cons (ze_ixT (.d (.tuple (r.map nI))) (atI_nat g1) (ze_var 1 rfl) (ze_var 2 rfl)) za_nil)) ⟨hb2, by omega, by omega⟩ rfl rfl rfl hr) za_nil))) (ZE.x (ze_slT (.d _) (ze_var 1 rfl) (zp_some (ZE.i (ze_add (ze_var 2 rfl) ze_int) (show (k : Int) + 1 = ((k + 1 : Nat) : Int) by omega))) zp_none) (by rw [cut_lo]))) ⟨?_, ?_⟩
    · rw [List.length_append, List.length_take, List.length_drop, List.length_map]
      simp
      omega
    · rw [List.length_take, List.length_map]
      simp
      omega
    · show IT.d (bentT b r).1 = _
      unfold bentT
      rw [e]
      dsimp only
      rw [if_pos h, e2]
      dsimp only
      rw [Int.toNat_natCast]
    · show _ = [OBox (bentT b r).2]
      unfold bentT
      rw [e]
      dsimp only
      rw [if_pos h, e2]
      dsimp only
      rw [Int.toNat_natCast]
      rfl
  · have h : ¬ 0 < d := of_decide_eq_false h
    obtain ⟨p, b2, e2, p0, p1, hb2⟩ := draw_ex (m := 8) hb1 (by decide)
    obtain ⟨k, hk, rfl⟩ : ∃ k : Nat, k < 8 ∧ p = k := ⟨p.toNat, by omega, by omega⟩
    refine zss_set 3 (ze_draw cd e2 (za_cons (ze_var 0 rfl) (za_cons ze_int za_nil)) rfl hb1 hr) (lt_of rfl) ?_ nd
    refine zss_ifRet (k := isTup (.tuple (r.map nI))) (zt_isi (.d _) (kit_tup _) (ze_var 1 rfl) m.isi m.tup) (fun _ => ?_) (fun h => nomatch h)
    have g1 : (pickT (r.map nI))[k]? = some ((pickT (r.map nI)).getD k .none) := by
      rw [List.getD_eq_getElem?_getD, List.getElem?_eq_getElem (show k < (pickT (r.map nI)).length from hk)]
      rfl
    have lm : (r.map nI).length ≤ 6 := by rw [List.length_map]; exact hl
    refine zss_ret (ze_ixL (.d (.list (pickT (r.map nI)))) (atI_nat g1) (ze_lstD (ds := pickT (r.map nI)) (za_cons (ze_cat (ds := r.map nI) (es := (r.map nI).take 1) (by rw [List.length_take]; omega) (ze_var 1 rfl) (ZE.x (ze_slT (.d _) (ze_var 1 rfl) zp_none (zp_some ze_int)) (congrArg PyData.tuple (cut_hi (i := 1))))) (za_cons (ZE.x (ze_slT (.d (.tuple (r.map nI))) (ze_var 1 rfl) (zp_some ze_int) zp_none) (congrArg PyData.tuple (cut_lo (i := 1)))) (za_cons (ze_revT (.d (.tuple (r.map nI))) (ze_var 1 rfl))
      (za_cons (ze_cat (ds := r.map nI) (es := [.int 0]) (by simp; omega) (ze_var 1 rfl) (ze_tup (ds := [.int 0]) (za_cons ze_int za_nil))) (za_cons (ze_tup (ds := [.tuple (r.map nI)]) (za_cons (ze_var 1 rfl) za_nil)) (za_cons (ZE.x (ze_slT (.d (.tuple (r.map nI))) (ze_var 1 rfl) zp_none (zp_some (ze_neg ze_int))) (congrArg PyData.tuple cut_last)) (za_cons ze_non (za_cons (ze_cat (ds := r.map nI) (es := [.tuple [.str "left", .int 0]]) (by simp; omega) (ze_var 1 rfl) (ze_tup (ds := [.tuple [.str "left", .int 0]]) (za_cons (ze_tup (ds := [.str "left", .int 0]) (za_cons ze_str (za_cons ze_int za_nil))) za_nil))) za_nil))))))))) (ze_var 3 rfl)) ⟨?_, ?_⟩
    · show IT.d (bentT b r).1 = _
      unfold bentT
      rw [e]
      dsimp only
      rw [if_neg h, e2]
      dsimp only
      rw [Int.toNat_natCast]
    · show _ = [OBox (bentT b r).2]
      unfold bentT
      rw [e]
      dsimp only
      rw [if_neg h, e2]
      rfl
end
end K66

namespace Z
open PySem L2 PyProof.Rows
section
variable {X : Cx} {a b : Expr} {s s1 s2 : S} {r : SD} {pos : Pos} {x : PyData} {ds : List PyData}
theorem ze_inZ {c : PyData} {rb : SD} (w1 : Vw s2 r x) (w2 : Vw s2 rb c) (hc : c = .list ds ∨ c = .tuple ds) (ha : ZE X a s r s1) (hb : ZE X b s1 rb s2) (p1 : PyData.plainAll ds = true) (p2 : x.plain = true) (hu : X.A.units + 1 + min (PyData.depthAll ds) x.depth < cLine) (hm : behindInMarks .In b = false := by rfl) :
    ZE X (.Compare a [.In] [b] pos) s (.d (.bool (ds.any fun z => PyData.eqv z x))) s2 :=
  ze_cmp op_inZ ha hb (fun u w T σ ρ H Q g va vb k => ⟨x, c, ds, g.see (List.mem_cons_of_mem _ List.mem_cons_self) va w1, g.see List.mem_cons_self vb w2, hc, p1, p2, hu, k _ ρ H (pre_refl ρ) trivial (g.tdrop.tdrop.tflat (show flat (.bl _) (.bool _) from rfl))⟩) hm
end
end Z
namespace K66
open PySem L2 PyProof.Rows Z
/-! ### what the law asks of the told bites -/
theorem wins_rows (b : Bar) : winsB b = ((List.range b.length).flatMap (rowZ b)).filter (bad b) := by
  unfold winsB bites bites0 rowZ
  rw [List.filter_filter]
  refine List.filter_congr fun z hz => ?_
  unfold bad
  rw [Bool.and_comm]
def wR (b : Bar) (m : Nat) : List PyData := (((List.range m).flatMap (rowZ b)).filter (bad b)).map pB
def wJ (b : Bar) (m j : Nat) : List PyData := wR b m ++ (((List.range j).map fun j => (m, j)).filter (bad b)).map pB
theorem wJ_zero (b : Bar) (m : Nat) : wJ b m 0 = wR b m := by unfold wJ; simp
theorem wJ_succ (b : Bar) (m j : Nat) : wJ b m (j + 1) = wJ b m j ++ if bad b (m, j) = true then [pB (m, j)] else [] := by
  unfold wJ
  rw [List.range_succ, List.map_append, List.filter_append, List.map_append, List.append_assoc]
  congr 1
  by_cases h : bad b (m, j) = true
  · rw [if_pos h, List.map_singleton, List.filter_cons_of_pos h]; rfl
  · rw [if_neg h, List.map_singleton, List.filter_cons_of_neg h]; rfl
theorem wR_succ (b : Bar) (m : Nat) : wR b (m + 1) = wJ b m (b.getD m 0) := by
  unfold wJ wR
  rw [List.range_succ, List.flatMap_append, List.filter_append, List.map_append]
  simp [rowZ]
theorem wR_all (b : Bar) : wR b b.length = (winsB b).map pB := by rw [wins_rows]; rfl
theorem rowZ_len (b : Bar) (m : Nat) : (rowZ b m).length = b.getD m 0 := by unfold rowZ; simp
theorem wJ_len {b : Bar} (h : okB b) {m j : Nat} (hm : m < b.length) (hj : j ≤ b.getD m 0) : (wJ b m j).length ≤ 48 := by
  unfold wJ wR
  rw [List.length_append, List.length_map, List.length_map]
  have h1 := List.length_filter_le (bad b) ((List.range m).flatMap (rowZ b))
  have h2 := List.length_filter_le (bad b) ((List.range j).map fun j => (m, j))
  rw [List.length_map, List.length_range] at h2
  have h3 := flat_le (l := List.range m) (g := rowZ b) (c := 8) fun i _ => by rw [rowZ_len]; exact h.get i
  rw [List.length_range] at h3
  have := h.get m
  have := h.1
  omega
theorem pB_plain : ∀ l : List (Nat × Nat), PyData.plainAll (l.map pB) = true
  | [] => rfl
  | z :: l => by
    rw [List.map_cons]
    show ((pB z).plain && _) = true
    rw [pB_plain l]
    rfl
theorem pB_nars : ∀ l : List (Nat × Nat), nars (l.map pB) = true
  | [] => rfl
  | z :: l => by
    rw [List.map_cons]
    unfold nars
    rw [pB_nars l, Bool.and_true]
    have : decide ((2 : Nat) < sizeLine) = true := by decide
    simp [pB, nar, nars, this]
theorem pB_deps : ∀ l : List (Nat × Nat), PyData.depthAll (l.map pB) ≤ 1
  | [] => by simp [PyData.depthAll]
  | z :: l => by
    have ih := pB_deps l
    show PyData.depthAll (pB z :: l.map pB) ≤ 1
    have : (pB z).depth = 1 := by simp [pB, PyData.depth, PyData.depthAll]
    simp only [PyData.depthAll, this]
    omega
theorem pB_depth (l : List (Nat × Nat)) : (PyData.tuple (l.map pB)).depth ≤ 2 := by
  simp only [PyData.depth]
  have := pB_deps l
  omega
theorem pB_nar {l : List (Nat × Nat)} (h : l.length ≤ 48) : nar (.tuple (l.map pB)) = true := by
  simp only [nar, pB_nars, Bool.and_true, List.length_map]
  exact decide_eq_true (Nat.lt_of_le_of_lt h (by decide))
theorem winsB_len {b : Bar} (h : okB b) : (winsB b).length ≤ 48 := by
  have := bites_len h
  have := List.length_filter_le (fun z => lost (bite b z.1 z.2)) (bites b)
  show (List.filter _ _).length ≤ 48
  omega
theorem nI_nars : ∀ l : List Nat, nars (l.map nI) = true
  | [] => rfl
  | z :: l => by
    rw [List.map_cons]
    unfold nars
    rw [nI_nars l]
    rfl
theorem eB_nar {b : Bar} (h : b.length ≤ 6) : nar (eB b) = true := by
  simp only [eB, nar, nI_nars, Bool.and_true, List.length_map]
  exact decide_eq_true (Nat.lt_of_le_of_lt h (by decide))
theorem nars_of : ∀ {l : List PyData}, (∀ x ∈ l, nar x = true) → nars l = true
  | [], _ => rfl
  | x :: l, h => by
    unfold nars
    rw [h x List.mem_cons_self, nars_of fun y hy => h y (List.mem_cons_of_mem _ hy)]
    rfl
theorem deps_of {n : Nat} : ∀ {l : List PyData}, (∀ x ∈ l, x.depth ≤ n) → PyData.depthAll l ≤ n
  | [], _ => by simp [PyData.depthAll]
  | x :: l, h => by
    have h1 := h x List.mem_cons_self
    have h2 := deps_of fun y hy => h y (List.mem_cons_of_mem _ hy)
    simp only [PyData.depthAll]
    omega
/-! ### bent bars in a row -/
def bents (r : Bar) : Nat → Bx → List PyData × Bx
  | 0, b => ([], b)
  | n + 1, b => ((bents r n b).1 ++ [(bentT (bents r n b).2 r).1], (bentT (bents r n b).2 r).2)
theorem bentI_ok {b : Bx} (h : BOK b) (i : Int) : BOK (bentI b i).2 := by
  obtain ⟨d, b', e, _, _, hb⟩ := draw_ex (m := 8) h (by decide)
  show BOK (drawB b 8).2
  rw [e]
  exact hb
theorem pickT_ok {l : List PyData} (hl : l.length ≤ 6) (i : Nat) : okV ((pickT l).getD i .none) := by
  have h : ∀ x ∈ pickT l, okV x := by
    intro x hx
    simp only [pickT, List.mem_cons, List.not_mem_nil, or_false] at hx
    rcases hx with rfl | rfl | rfl | rfl | rfl | rfl | rfl | rfl <;> first | trivial | (simp [okV]; done) | (simp [okV]; omega)
  rw [List.getD_eq_getElem?_getD]
  cases e : (pickT l)[i]? with
  | none => trivial
  | some x => exact h x (List.mem_of_getElem? e)
theorem bentT_ok {b : Bx} {r : Bar} (h : BOK b) (ho : okB r) (hr : r ≠ []) : BOK (bentT b r).2 ∧ okV (bentT b r).1 := by
  obtain ⟨d, b', e, _, _, hb⟩ := draw_ex (m := 5) h (by decide)
  unfold bentT
  rw [e]
  dsimp only
  have hp := List.length_pos_iff.mpr hr
  have hl := ho.1
  split
  · obtain ⟨a, b2, e2, _, _, hb2⟩ := draw_ex (m := ((r.length : Nat) : Int)) hb (by omega)
    rw [e2]
    dsimp only
    refine ⟨bentI_ok hb2 _, ?_⟩
    show List.length _ < 1000
    simp
    omega
  · obtain ⟨a, b2, e2, _, _, hb2⟩ := draw_ex (m := 8) hb (by decide)
    rw [e2]
    exact ⟨hb2, pickT_ok (by rw [List.length_map]; exact hl) _⟩
theorem bents_ok {r : Bar} (ho : okB r) (hr : r ≠ []) {b : Bx} (h : BOK b) : ∀ n : Nat, BOK (bents r n b).2 ∧ (∀ x ∈ (bents r n b).1, okV x) ∧ (bents r n b).1.length = n
  | 0 => ⟨h, (fun x hx => absurd hx (List.not_mem_nil)), rfl⟩
  | n + 1 => by
    obtain ⟨h1, h2, h3⟩ := bents_ok ho hr h n
    obtain ⟨h4, h5⟩ := bentT_ok h1 ho hr
    refine ⟨h4, fun x hx => ?_, ?_⟩
    · rcases List.mem_append.mp hx with q | q
      · exact h2 x q
      · rw [List.mem_singleton.mp q]; exact h5
    · show (_ ++ [_]).length = n + 1
      rw [List.length_append, h3]
      rfl
def rowsV (r : Bar) : List PyData := [eB r, .tuple (r.map nI).reverse, .tuple (r.map nI ++ [.int 1]), .tuple (r.map nI ++ [.int 0]), .tuple [.int 9], .tuple [.int 8, .int 8, .int 8, .int 8, .int 8, .int 8], .tuple [.int 8, .int 8, .int 8, .int 8, .int 8, .int 8, .int 8], .tuple [], .none, .int 1, .tuple [.bool true], .tuple [.int 1, .int 2]]
theorem rowsV_ok {r : Bar} (h : r.length ≤ 6) : ∀ x ∈ rowsV r, okV x := by
  intro x hx
  simp only [rowsV, List.mem_cons, List.not_mem_nil, or_false] at hx
  rcases hx with rfl | rfl | rfl | rfl | rfl | rfl | rfl | rfl | rfl | rfl | rfl | rfl <;> first | trivial | (simp [okV, eB]; done) | (simp [okV, eB]; omega)
/-! ### at the law's end -/
def aOf (i j : Int) : Int := if j < i then j else i
theorem rep_flat (k : Nat) (x : PyData) : (List.replicate k [x]).flatten = List.replicate k x := by
  induction k with
  | zero => rfl
  | succ k ih => rw [List.replicate_succ, List.flatten_cons, ih, List.replicate_succ]; rfl
theorem rep_bar (k a : Nat) : PyData.tuple (List.replicate k (nI a)) = eB (List.replicate k a) := by
  show _ = PyData.tuple _
  rw [List.map_replicate]
theorem rep_ok {k a : Nat} (h1 : 1 ≤ a) (h2 : a ≤ 8) (h3 : k ≤ 6) : okB (List.replicate k a) := ⟨by simpa using h3, fun x hx => by rw [List.eq_of_mem_replicate hx]; omega⟩
theorem one_one {s : Nat} (h1 : 2 ≤ s) (h2 : s ≤ 4) : (1, 1) ∈ winsB (List.replicate s s) := by
  obtain ⟨a, rfl⟩ : ∃ a, s = a + 2 := ⟨s - 2, by omega⟩
  refine List.mem_filter.mpr ⟨List.mem_filter.mpr ⟨bites0_mem.mpr ⟨?_, ?_⟩, rfl⟩, ?_⟩
  · show 1 < (List.replicate (a + 2) (a + 2)).length
    simp
  · show 1 < (List.replicate (a + 2) (a + 2)).getD 1 0
    rw [List.getD_eq_getElem?_getD, List.getElem?_replicate, if_pos (by omega)]
    show 1 < a + 2
    omega
  · show lost (bite (List.replicate (a + 2) (a + 2)) 1 1) = true
    rw [sq_bite a (by omega), cor_lost (by omega) (by omega) (by omega)]
    simp
theorem losts_nar {m n : Nat} (hm : m ≤ 3) (hn : n ≤ 5) : nar (.tuple ((srt ((upTo n m).map eB)).filter lostP)) = true ∧ (PyData.tuple ((srt ((upTo n m).map eB)).filter lostP)).depth ≤ 2 := by
  have ok := upTo_ok n hn m hm
  have mem : ∀ x ∈ (srt ((upTo n m).map eB)).filter lostP, ∃ b, okB b ∧ x = eB b := fun x hx => by
    obtain ⟨r, hr, rfl⟩ := List.mem_map.mp ((srt_perm _).mem_iff.mp (List.mem_filter.mp hx).1)
    exact ⟨r, (ok r hr).1, rfl⟩
  have hl : ((srt ((upTo n m).map eB)).filter lostP).length ≤ 155 := by
    have h1 := List.length_filter_le lostP (srt ((upTo n m).map eB))
    rw [(srt_perm _).length_eq, List.length_map] at h1
    have := upTo_len n hn m hm
    omega
  constructor
  · have : decide (((srt ((upTo n m).map eB)).filter lostP).length < sizeLine) = true := decide_eq_true (Nat.lt_of_le_of_lt hl (by decide))
    simp only [nar, this, Bool.true_and]
    refine nars_of fun x hx => ?_
    obtain ⟨b, hb, rfl⟩ := mem x hx
    exact eB_nar hb.1
  · have := deps_of (n := 1) (l := (srt ((upTo n m).map eB)).filter lostP) fun x hx => by
      obtain ⟨b, hb, rfl⟩ := mem x hx
      rw [eB_depth]; exact Nat.le_refl _
    simp only [PyData.depth]
    omega
end K66

namespace K66
open PySem L2 PyProof.Rows Z
section
variable {P : Program} {w : World} {K : PySem.W.Frag} {mg : Str → Option Value} {base : Heap}
structure Fs (P : Program) (w : World) (K : PySem.W.Frag) (mg : Str → Option Value) (base : Heap) : Prop where
  box : Cal P w K mg base 1 "_law_box" (preOf aSc0 (fun ns => ns.length ≤ 63)) (relOf aSc0 (fun ns => ns.length ≤ 63) (fun ns => .o (OBox (box0 ns))) (fun _ => []))
  draw : CD P w K mg base
  same : Cal P w K mg base 3 "_law_same" (preOf aSm (okSm 2)) (relOf aSm (okSm 2) rSm (fun _ => []))
  bar : Cal P w K mg base 3 "_law_bar" (preOf aBar BOK) (relOf aBar BOK (fun b => .d (eB (barB b).1)) (fun b => [OBox (barB b).2]))
  ilost : CL P w K mg base
  llost : CLL P w K mg base 48
  bitten : CB P w K mg base
  lbite : CLB P w K mg base
  wins : CW P w K mg base
  bent : CBT P w K mg base
  isbar : Cal P w K mg base 2 "is_bar" (preOf aX okV) (relOf aX okV (fun x => .d (.bool (isB x))) (fun _ => []))
  lisbar : Cal P w K mg base 1 "_law_is_bar" (preOf aX okV) (relOf aX okV (fun x => .d (.bool (isB x))) (fun _ => []))
  losts : CLo P w K mg base
  all_ : CA P w K mg base
  mx : MX mg
  m1 : mg "range" = none
  m2 : mg "len" = none
  m3 : mg "tuple" = none
  m4 : mg "all" = none
  m5 : mg "min" = none
  m6 : mg "max" = none
  m7 : mg "abs" = none
abbrev M0 (P : Program) (w : World) : Own := OMs P w fK fun _ => False
/-- the state between the turns -/
def St0 (P : Program) (w : World) (ns : List Int) (t : S) : Prop := ∃ b, BOK b ∧ t = ⟨[.d (.list (ns.map .int)), .r 0, .r 1, .un, .un, .un, .un, .un, .un, .un, .un, .un, .un, .un, .un, .un, .un], [OBox b, M0 P w]⟩
theorem law_body (F : Fs P w K mg base) (f : Addr) (cdv : Value) (Ar : Around) (outer : List Env) (s : Shared) (H : Hp) (E : XK) (ns : List Int) (hy : ns.length ≤ 63) (hr : Room 60 (Ar.deeper (envOfC "law" (defScope s_law) s.heap.objs.size f cdv))) :
    ZSs (cxOf CX0 P w K mg base ["script", "box", "met", "turn", "bar", "wins", "i", "j", "rows", "step", "value", "m", "n", "a", "b", "k", "size"] "law" (defScope s_law) f cdv Ar outer s H E).nox (defBody s_law) (inSt (aSc0 ns) 16) (poS 0 (.d (.bool true)) []) := by
  have hu := hr.units
  have nd := sc_law.nd
  have s48 : 1000 < sizeLine := by decide
  refine zss_set 1 (ze_callSR ns F.box (za_cons (ze_var 0 rfl) za_nil) hy rfl hr) (lt_of rfl) ?_ nd
  refine zss_set 2 (ze_newS fK) (lt_of rfl) ?_ nd
  refine zss_for (vs := [3]) (M := St0 P w ns) (zi_rng1 (za_cons ze_int za_nil) ⟨by decide, by decide⟩ F.m1) 2 (Nat.zero_le _) (Nat.le_refl _) (fun _ t => St0 P w ns t) ⟨box0 ns, box0_ok hy, rfl⟩ (fun i x t hx ht => ?_) (fun t ht => ht) (fun t ht => ?_) PassesOwn.never
  · obtain ⟨b, hb, rfl⟩ := ht
    obtain ⟨_, rfl⟩ := rng_get hx
    refine ⟨_, zg_name 3 (lt_of rfl) nd, ?_⟩
    obtain ⟨hb1, ho, hne, _, _⟩ := barB_ok hb
    obtain ⟨⟨r, b1⟩, er⟩ : ∃ z, barB b = z := ⟨_, rfl⟩
    rw [er] at hb1 ho hne
    have hb1 : BOK b1 := hb1
    have ho : okB r := ho
    have hne : r ≠ [] := hne
    have hsum := ho.sum
    have hl : r.length ≤ 6 := ho.1
    refine zss_set 4 (ZE.to (ze_callS1 (zd := eB r) (O' := OBox b1) b F.bar (za_cons (ze_var 1 rfl) (za_cons ze_int (za_cons ze_int za_nil))) hb rfl (by show IT.d (eB (barB b).1) = _; rw [er]) (by show [OBox (barB b).2] = _; rw [er]) hr) rfl rfl) (lt_of rfl) ?_ nd
    refine zss_ifRet (k := false) (zt_k (zt_notI (zt_val (ze_callS (.bool (lost r), .bool (lost r)) F.same (za_cons (ze_callS r F.ilost (za_cons (ze_var 4 rfl) za_nil) ho rfl hr) (za_cons (ze_callS1 (zd := .bool (lost r)) ⟨r, fK, fun _ => False⟩ F.llost (za_cons (ze_var 4 rfl) (za_cons (ze_var 2 rfl) za_nil)) ⟨ho, hsum, gd_fK _⟩ rfl rfl rfl hr) za_nil)) ⟨rfl, rfl, by simp [PyData.depth]⟩ rfl hr))) (by simp [same])) (fun h => nomatch h) fun _ => ?_
    refine zss_set 5 (ze_lst (ds := []) za_nil) (lt_of rfl) ?_ nd
    refine zss_for (vs := [6]) (M := fun t => ∃ r6 r7, t = ⟨[.d (.list (ns.map .int)), .r 0, .r 1, .d (.int (0 + ((i : Nat) : Int))), .d (eB r), .r 2, r6, r7, .un, .un, .un, .un, .un, .un, .un, .un, .un], [OBox b1, M0 P w, OL (wR r r.length)]⟩) (ZI.x (zi_rng1 (za_cons (ze_lenT (.d (.tuple (r.map nI))) (za_cons (ze_var 4 rfl) za_nil) F.m2) za_nil) ⟨by omega, by rw [List.length_map]; omega⟩ F.m1) (show _ = rng 0 r.length by rw [List.length_map, Int.toNat_natCast])) 3 (by show 2 ≤ 3; decide) (Nat.le_refl _)
      (fun m t => ∃ r6 r7, t = ⟨[.d (.list (ns.map .int)), .r 0, .r 1, .d (.int (0 + ((i : Nat) : Int))), .d (eB r), .r 2, r6, r7, .un, .un, .un, .un, .un, .un, .un, .un, .un], [OBox b1, M0 P w, OL (wR r m)]⟩) ⟨_, _, rfl⟩ (fun m x t hx ⟨r6, r7, ht⟩ => ?_) (fun t ⟨r6, r7, ht⟩ => ⟨r6, r7, by rw [ht, rng_len]⟩) (fun t ⟨r6, r7, ht⟩ => ?_) PassesOwn.never
    · subst ht
      have hm : m < r.length := by
        have := (List.getElem?_eq_some_iff.mp hx).1
        rwa [rng_len] at this
      rw [rng0_map, List.getElem?_map, List.getElem?_range hm] at hx
      cases hx
      have g1 : (r.map nI)[m]? = some (nI (r.getD m 0)) := by
        rw [List.getElem?_map, List.getD_eq_getElem?_getD, List.getElem?_eq_getElem hm]
        rfl
      have h8 := ho.get m
      refine ⟨_, zg_name 6 (lt_of rfl) nd, ?_⟩
      refine zss_for (vs := [7]) (M := fun t => ∃ r6 r7, t = ⟨[.d (.list (ns.map .int)), .r 0, .r 1, .d (.int (0 + ((i : Nat) : Int))), .d (eB r), .r 2, r6, r7, .un, .un, .un, .un, .un, .un, .un, .un, .un], [OBox b1, M0 P w, OL (wR r (m + 1))]⟩) (ZI.x (zi_rng1 (za_cons (ze_ixT (.d (.tuple (r.map nI))) (atI_nat g1) (ze_var 4 rfl) (ze_var 6 rfl)) za_nil) ⟨by omega, by omega⟩ F.m1) (show _ = rng 0 (r.getD m 0) by rw [Int.toNat_natCast])) 3 (Nat.le_refl _) (Nat.le_refl _)
        (fun j t => ∃ r7, t = ⟨[.d (.list (ns.map .int)), .r 0, .r 1, .d (.int (0 + ((i : Nat) : Int))), .d (eB r), .r 2, .d (nI m), r7, .un, .un, .un, .un, .un, .un, .un, .un, .un], [OBox b1, M0 P w, OL (wJ r m j)]⟩) ⟨_, by rw [wJ_zero]; rfl⟩ (fun j x t hx ⟨r7, ht⟩ => ?_) (fun t ⟨r7, ht⟩ => ⟨.d (nI m), r7, by rw [ht, rng_len, wR_succ]⟩) (fun t ht => zss_nil ht) PassesOwn.never
      subst ht
      have hj : j < r.getD m 0 := by
        have := (List.getElem?_eq_some_iff.mp hx).1
        rwa [rng_len] at this
      rw [rng0_map, List.getElem?_map, List.getElem?_range hj] at hx
      cases hx
      refine ⟨_, zg_name 7 (lt_of rfl) nd, ?_⟩
      have lb : (bite r m j).length ≤ 6 := (bite_ok ho).1
      refine zss_ifRet (k := false) (zt_k (zt_notI (zt_val (ze_callS (eB (bite r m j), eB (bite r m j)) F.same (za_cons (ze_callS (r, m, j) F.bitten (za_cons (ze_var 4 rfl) (za_cons (ze_var 6 rfl) (za_cons (ze_var 7 rfl) za_nil))) hl rfl hr) (za_cons (ze_callS (r, m, j) F.lbite (za_cons (ze_var 4 rfl) (za_cons (ze_var 6 rfl) (za_cons (ze_var 7 rfl) za_nil))) ho rfl hr) za_nil)) ⟨eB_nar lb, eB_nar lb, by show min (eB _).depth _ ≤ 2; rw [eB_depth]; decide⟩ rfl hr))) (by show (!same (eB (bite r m j)) (eB (bite r m j))) = false; rw [same_refl _ (eB_nar lb)]; rfl)) (fun h => nomatch h) fun _ => ?_
      have hbad : bad r (m, j) = ((decide ((m : Int) > 0) || decide ((j : Int) > 0)) && lost (bite r m j)) := by
        unfold bad
        congr 1
        rw [Bool.eq_iff_iff]
        simp
        omega
      have hwl := wJ_len ho hm (Nat.le_of_lt hj)
      refine zss_ifI (k := bad r (m, j)) (M := fun t => ∃ r7, t = ⟨[.d (.list (ns.map .int)), .r 0, .r 1, .d (.int (0 + ((i : Nat) : Int))), .d (eB r), .r 2, .d (nI m), r7, .un, .un, .un, .un, .un, .un, .un, .un, .un], [OBox b1, M0 P w, OL (wJ r m (j + 1))]⟩)
        (zt_k (zw_andI (zw_orI (zt_gt (ze_var 6 rfl) ze_int) (fun _ => zw_or1 (zt_gt (ze_var 7 rfl) ze_int))).t fun _ => zw_and1 (zt_val (ZE.to (ze_callS1 (zd := .bool (lost (bite r m j))) ⟨bite r m j, fK, fun _ => False⟩ F.llost (za_cons (ze_callS (r, m, j) F.lbite (za_cons (ze_var 4 rfl) (za_cons (ze_var 6 rfl) (za_cons (ze_var 7 rfl) za_nil))) ho rfl hr) (za_cons (ze_var 2 rfl) za_nil)) ⟨bite_ok ho, (bite_ok ho).sum, gd_fK _⟩ rfl rfl rfl hr) rfl rfl))).t hbad.symm) (fun h => ?_) (fun h => ?_) fun t ht => zss_nil ht
      · refine zss_app (ze_var 5 rfl) (ze_tup (ds := [nI m, nI j]) (za_cons (ze_var 6 rfl) (za_cons (ze_var 7 rfl) za_nil))) rfl rfl (by omega) (zss_nil ⟨.d (nI j), ?_⟩)
        rw [wJ_succ, if_pos h]
        rfl
      · refine zss_nil ⟨.d (nI j), ?_⟩
        rw [wJ_succ, if_neg (by rw [h]; decide), List.append_nil]
        rfl
    · subst ht
      refine zss_forget (e' := [.d (.list (ns.map .int)), .r 0, .r 1, .un, .d (eB r), .r 2, .un, .un, .un, .un, .un, .un, .un, .un, .un, .un, .un]) 3 (by simp [wkE]) (by simp [low]) (by show 2 ≤ 3; decide) ?_
      rw [wR_all]
      have wn := pB_nar (winsB_len ho)
      refine zss_ifRet (k := false) (zt_k (zt_notI (zt_val (ze_callS (.tuple ((winsB r).map pB), .tuple ((winsB r).map pB)) F.same (za_cons (ze_callS r F.wins (za_cons (ze_var 4 rfl) za_nil) ho rfl hr) (za_cons (ze_tupOfL (ds := (winsB r).map pB) (.r rfl) (za_cons (ze_var 5 rfl) za_nil) F.m3) za_nil)) ⟨wn, wn, Nat.le_trans (Nat.min_le_left _ _) (pB_depth (winsB r))⟩ rfl hr))) (by show (!same (.tuple ((winsB r).map pB)) _) = false; rw [same_refl _ wn]; rfl)) (fun h => nomatch h) fun _ => ?_
      obtain ⟨q1, q2, q3⟩ := bents_ok ho hne hb1 5
      refine zss_set 8 (ze_catL (ds := rowsV r) (es := (bents r 5 b1).1) (by rw [q3]; exact Nat.le_trans (m := 17) (Nat.le_refl _) (by decide)) (ze_lstD (ds := rowsV r) (za_cons (ze_var 4 rfl) (za_cons (ze_revT (.d (.tuple (r.map nI))) (ze_var 4 rfl)) (za_cons (ze_cat (ds := r.map nI) (es := [.int 1]) (by simp; omega) (ze_var 4 rfl) (ze_tup (ds := [.int 1]) (za_cons ze_int za_nil))) (za_cons (ze_cat (ds := r.map nI) (es := [.int 0]) (by simp; omega) (ze_var 4 rfl) (ze_tup (ds := [.int 0]) (za_cons ze_int za_nil))) (za_cons (ze_tup (ds := [.int 9]) (za_cons ze_int za_nil))
        (za_cons (ze_repT (ds := [.int 8]) (k := 6) (by simp) (by decide) (by decide) (by decide) (ze_tup (ds := [.int 8]) (za_cons ze_int za_nil)) ze_int) (za_cons (ze_repT (ds := [.int 8]) (k := 7) (by simp) (by decide) (by decide) (by decide) (ze_tup (ds := [.int 8]) (za_cons ze_int za_nil)) ze_int) (za_cons (ze_tup (ds := []) za_nil) (za_cons ze_non (za_cons ze_int (za_cons (ze_tup (ds := [.bool true]) (za_cons ze_bl za_nil)) (za_cons (ze_tup (ds := [.int 1, .int 2]) (za_cons ze_int (za_cons ze_int za_nil))) za_nil)))))))))))))
        (ze_lcD (vs := [9]) (acc0 := (bents r 5 b1).1) (R0 := [OBox (bents r 5 b1).2, M0 P w, OL ((winsB r).map pB)]) (zi_rng1 (za_cons ze_int za_nil) ⟨by decide, by decide⟩ F.m1) (fun i acc R => acc = (bents r i b1).1 ∧ R = [OBox (bents r i b1).2, M0 P w, OL ((winsB r).map pB)]) ⟨rfl, rfl⟩ (fun i x acc R hx ⟨h1, h2⟩ => ?_) (fun acc R h => h) (by decide) nd (blkOk_by (own := [("step", 9)]) (by kernel_rfl)))) (lt_of rfl) ?_ nd
      · subst h1 h2
        obtain ⟨_, rfl⟩ := rng_get hx
        refine ⟨_, Is true _, fun z => zg_name 9 (lt_of rfl) nd, fun z => zts_nil, (fun t2 h => absurd h.1 (by decide)), fun t2 h => ?_⟩
        obtain ⟨_, rfl⟩ := h
        exact ⟨(bentT (bents r i b1).2 r).1, _, fun z => ze_callS1 (zd := (bentT (bents r i b1).2 r).1) ((bents r i b1).2, r) F.bent (za_cons (ze_var 1 rfl) (za_cons (ze_var 4 rfl) za_nil)) ⟨(bents_ok ho hne hb1 i).1, ho, hne⟩ rfl rfl rfl hr, rfl, rfl⟩
      have okr : ∀ x ∈ rowsV r ++ (bents r 5 b1).1, okV x := fun x hx => (List.mem_append.mp hx).elim (rowsV_ok hl x) (q2 x)
      refine zss_ifRet (k := false) (zt_k (zt_notI (zt_val (ze_all (bs := (rowsV r ++ (bents r 5 b1).1).map fun _ => true) (.d _) (za_cons (ZE.x (ze_lcM (vs := [10]) (fun _ => .bool true) (zi_list (ze_var 8 rfl)) (fun x hx => ⟨_, fun z => zg_name 10 (lt_of rfl) nd, rfl, fun z => ZE.x (ze_callS (.bool (isB x), .bool (isB x)) F.same (za_cons (ze_callS x F.isbar (za_cons (ze_var 10 rfl) za_nil) (okr x hx) rfl hr) (za_cons (ze_callS x F.lisbar (za_cons (ze_var 10 rfl) za_nil) (okr x hx) rfl hr) za_nil)) ⟨rfl, rfl, by simp [PyData.depth]⟩ rfl hr) (by simp [same])⟩) (by rw [List.length_append, q3]; exact Nat.lt_of_le_of_lt (m := 17) (Nat.le_refl _) (by decide)) nd (blkOk_by (own := [("value", 10)]) (by kernel_rfl))) (by rw [List.map_map]; rfl)) za_nil) F.m4))) (by simp)) (fun h => nomatch h) fun _ => ?_
      exact zss_end 2 (e' := [.d (.list (ns.map .int)), .r 0, .r 1, .un, .un, .un, .un, .un, .un, .un, .un, .un, .un, .un, .un, .un, .un]) (by simp [wkE]) (by simp [low]) (Nat.le_refl _) ⟨_, q1, rfl⟩
  · obtain ⟨b, hb, rfl⟩ := ht
    obtain ⟨d1, b1, e1, l1, u1, hb1⟩ := draw_ex hb (show (0 : Int) < 3 by decide)
    obtain ⟨d2, b2, e2, l2, u2, hb2⟩ := draw_ex hb1 (show (0 : Int) < 5 by decide)
    obtain ⟨m, em, hm1, hm⟩ : ∃ m : Nat, 1 + d1 = m ∧ 1 ≤ m ∧ m ≤ 3 := ⟨(1 + d1).toNat, by omega, by omega, by omega⟩
    obtain ⟨n, en, hn1, hn⟩ : ∃ m : Nat, 1 + d2 = m ∧ 1 ≤ m ∧ m ≤ 5 := ⟨(1 + d2).toNat, by omega, by omega, by omega⟩
    refine zss_par2 11 12 (za_cons (ZE.i (ze_add ze_int (ze_draw F.draw e1 (za_cons (ze_var 1 rfl) (za_cons ze_int za_nil)) rfl hb hr)) em) (za_cons (ZE.i (ze_add ze_int (ze_draw F.draw e2 (za_cons (ze_var 1 rfl) (za_cons ze_int za_nil)) rfl hb1 hr)) en) za_nil)) (lt_of rfl) (lt_of rfl) ?_ nd
    obtain ⟨ln, ld⟩ := losts_nar hm hn
    have ok := upTo_ok n hn m hm
    refine zss_ifRet (k := false) (zt_k (zt_notI (zt_val (ze_callS (.tuple ((srt ((upTo n m).map eB)).filter lostP), .tuple ((srt ((upTo n m).map eB)).filter lostP)) F.same (za_cons (ze_callS (m, n) F.losts (za_cons (ze_var 11 rfl) (za_cons (ze_var 12 rfl) za_nil)) ⟨hm, hn⟩ rfl hr) (za_cons (ZE.x (ze_tupOfL (.d _) (za_cons (ze_lcP (vs := [4]) (fun x => x) lostP (zi_list (ze_callS (m, n) F.all_ (za_cons (ze_var 11 rfl) (za_cons (ze_var 12 rfl) za_nil)) ⟨hm, hn⟩ rfl hr)) (fun x hx => ?_) ?_ nd (blkOk_by (own := [("bar", 4)]) (by kernel_rfl))) za_nil) F.m3) (by rw [List.map_id'])) za_nil)) ⟨ln, ln, Nat.le_trans (Nat.min_le_left _ _) ld⟩ rfl hr))) (by show (!same (.tuple ((srt ((upTo n m).map eB)).filter lostP)) _) = false; rw [same_refl _ ln]; rfl)) (fun h => nomatch h) fun _ => ?_
    · obtain ⟨r, hr2, rfl⟩ := List.mem_map.mp ((srt_perm _).mem_iff.mp hx)
      refine ⟨_, fun z' => zg_name 4 (lt_of rfl) nd, rfl, fun z' => zts_one (zt_k (zt_val (ZE.to (ze_callS1 (zd := .bool (lost r)) ⟨r, fK, fun _ => False⟩ F.llost (za_cons (ze_var 4 rfl) (za_cons (ze_var 2 rfl) za_nil)) ⟨(ok r hr2).1, (ok r hr2).1.sum, gd_fK _⟩ rfl rfl rfl hr) rfl rfl)) (lostP_eq r).symm), fun _ z' => ze_var 4 rfl⟩
    · rw [(srt_perm _).length_eq, List.length_map]
      have := upTo_len n hn m hm
      show (upTo n m).length < sizeLine
      omega
    obtain ⟨d3, b3, e3, l3, u3, hb3⟩ := draw_ex hb2 (show (0 : Int) < 8 by decide)
    obtain ⟨d4, b4, e4, l4, u4, hb4⟩ := draw_ex hb3 (show (0 : Int) < 8 by decide)
    obtain ⟨d5, b5, e5, l5, u5, hb5⟩ := draw_ex hb4 (show (0 : Int) < 5 by decide)
    obtain ⟨a, ea, a1, a8⟩ : ∃ m : Nat, 1 + d3 = m ∧ 1 ≤ m ∧ m ≤ 8 := ⟨(1 + d3).toNat, by omega, by omega, by omega⟩
    obtain ⟨c, ec, c1, c8⟩ : ∃ m : Nat, 1 + d4 = m ∧ 1 ≤ m ∧ m ≤ 8 := ⟨(1 + d4).toNat, by omega, by omega, by omega⟩
    obtain ⟨k, ek, k1, k5⟩ : ∃ m : Nat, 1 + d5 = m ∧ 1 ≤ m ∧ m ≤ 5 := ⟨(1 + d5).toNat, by omega, by omega, by omega⟩
    refine zss_par3 13 14 15 (za_cons (ZE.i (ze_add ze_int (ze_draw F.draw e3 (za_cons (ze_var 1 rfl) (za_cons ze_int za_nil)) rfl hb2 hr)) ea) (za_cons (ZE.i (ze_add ze_int (ze_draw F.draw e4 (za_cons (ze_var 1 rfl) (za_cons ze_int za_nil)) rfl hb3 hr)) ec) (za_cons (ZE.i (ze_add ze_int (ze_draw F.draw e5 (za_cons (ze_var 1 rfl) (za_cons ze_int za_nil)) rfl hb4 hr)) ek) za_nil))) (lt_of rfl) (lt_of rfl) (lt_of rfl) ?_ nd
    obtain ⟨a', ea', a1', a5'⟩ : ∃ m : Nat, (if (5 : Int) < a then (5 : Int) else a) = m ∧ 1 ≤ m ∧ m ≤ 5 := ⟨(if (5 : Int) < a then (5 : Int) else a).toNat, by split <;> omega, by split <;> omega, by split <;> omega⟩
    obtain ⟨k', ek', k1', k4'⟩ : ∃ m : Nat, (if (4 : Int) < k then (4 : Int) else k) = m ∧ 1 ≤ m ∧ m ≤ 4 := ⟨(if (4 : Int) < k then (4 : Int) else k).toNat, by split <;> omega, by split <;> omega, by split <;> omega⟩
    have rok := rep_ok (k := k') a1' (by omega) (by omega)
    refine zss_ifRet (k := false) (zt_k (zt_notI (zt_val (ze_callS (.bool (lost (List.replicate k' a')), .bool (decide ((a' : Int) = 1) && decide ((k' : Int) = 1))) F.same (za_cons (ze_callS (List.replicate k' a') F.ilost (za_cons (ZE.x (ze_repT (ds := [nI a']) (k := (k' : Int)) (by simp) (by omega) (by omega) (by simp) (ze_tup (ds := [nI a']) (za_cons (ZE.i (ze_min2 (za_cons (ze_var 13 rfl) (za_cons ze_int za_nil)) F.m5) ea') za_nil)) (ZE.i (ze_min2 (za_cons (ze_var 15 rfl) (za_cons ze_int za_nil)) F.m5) ek')) (by rw [rep_flat, Int.toNat_natCast, rep_bar])) za_nil) rok rfl hr) (za_cons (ze_and (ze_eqI (ZE.i (ze_min2 (za_cons (ze_var 13 rfl) (za_cons ze_int za_nil)) F.m5) ea') ze_int) fun _ => ze_one (ze_eqI (ZE.i (ze_min2 (za_cons (ze_var 15 rfl) (za_cons ze_int za_nil)) F.m5) ek') ze_int)) za_nil)) ⟨rfl, rfl, by simp [PyData.depth]⟩ rfl hr))) (by
      show (!same (.bool _) (.bool _)) = false
      rw [rec_lost a1' a5' k1' k4']
      simp only [same, Bool.not_eq_false', beq_iff_eq]
      rw [Bool.eq_iff_iff]
      simp
      omega)) (fun h => nomatch h) fun _ => ?_
    obtain ⟨h, eh, h1, h8⟩ : ∃ m : Nat, (if (c : Int) > a then (c : Int) else a) = m ∧ m = max a c ∧ m ≤ 8 := ⟨max a c, by split <;> omega, rfl, by omega⟩
    obtain ⟨l, el, q1, q8⟩ : ∃ m : Nat, (if (c : Int) < a then (c : Int) else a) = m ∧ m = min a c ∧ 1 ≤ m := ⟨min a c, by split <;> omega, rfl, by omega⟩
    have tok : okB [h, l] := ⟨by simp, fun x hx => by simp at hx; omega⟩
    have cok : okB (a :: List.replicate k 1) := ⟨by simp; omega, fun x hx => by
      rcases List.mem_cons.mp hx with rfl | hx
      · omega
      · rw [List.eq_of_mem_replicate hx]; decide⟩
    refine zss_ifRet (k := false) (zt_k (zw_orI (zt_notI (zt_val (ze_callS (.bool (lost [h, l]), .bool (decide ((if (a : Int) - c < 0 then -((a : Int) - c) else (a : Int) - c) = 1))) F.same (za_cons (ze_callS [h, l] F.ilost (za_cons (ze_tup (ds := [nI h, nI l]) (za_cons (ZE.i (ze_max2 (za_cons (ze_var 13 rfl) (za_cons (ze_var 14 rfl) za_nil)) F.m6) eh) (za_cons (ZE.i (ze_min2 (za_cons (ze_var 13 rfl) (za_cons (ze_var 14 rfl) za_nil)) F.m5) el) za_nil))) za_nil) tok rfl hr) (za_cons (ze_eqI (ze_absI (za_cons (ze_sub (ze_var 13 rfl) (ze_var 14 rfl)) za_nil) F.m7) ze_int) za_nil)) ⟨rfl, rfl, by simp [PyData.depth]⟩ rfl hr)))
      (fun _ => zw_or1 (zt_notI (zt_val (ze_callS (.bool (lost (a :: List.replicate k 1)), .bool (decide ((a : Int) = (k : Int) + 1))) F.same (za_cons (ze_callS (a :: List.replicate k 1) F.ilost (za_cons (ZE.x (ze_cat (ds := [nI a]) (es := List.replicate k (nI 1)) (by simp; omega) (ze_tup (ds := [nI a]) (za_cons (ze_var 13 rfl) za_nil)) (ZE.x (ze_repT (ds := [nI 1]) (k := (k : Int)) (by simp) (by omega) (by omega) (by simp) (ze_tup (ds := [nI 1]) (za_cons ze_int za_nil)) (ze_var 15 rfl)) (by rw [rep_flat, Int.toNat_natCast]))) (by
        show PyData.tuple (nI a :: List.replicate k (nI 1)) = PyData.tuple (nI a :: (List.replicate k 1).map nI)
        rw [List.map_replicate])) za_nil) cok rfl hr) (za_cons (ze_eqI (ze_var 13 rfl) (ze_add (ze_var 15 rfl) ze_int)) za_nil)) ⟨rfl, rfl, by simp [PyData.depth]⟩ rfl hr))))).t (by
      show (!same (.bool _) (.bool _) || !same (.bool _) (.bool _)) = false
      rw [two_lost q8 (by omega) h8, cor_lost a1 a8 k5]
      simp only [same, Bool.or_eq_false_iff, Bool.not_eq_false', beq_iff_eq]
      constructor
      · rw [Bool.eq_iff_iff]
        simp
        split <;> omega
      · rw [Bool.eq_iff_iff]
        simp
        omega)) (fun h => nomatch h) fun _ => ?_
    obtain ⟨d6, b6, e6, l6, u6, hb6⟩ := draw_ex hb5 (show (0 : Int) < 3 by decide)
    obtain ⟨z, ez, z2, z4⟩ : ∃ m : Nat, 2 + d6 = m ∧ 2 ≤ m ∧ m ≤ 4 := ⟨(2 + d6).toNat, by omega, by omega, by omega⟩
    refine zss_set 16 (ZE.i (ze_add ze_int (ze_draw F.draw e6 (za_cons (ze_var 1 rfl) (za_cons ze_int za_nil)) rfl hb5 hr)) ez) (lt_of rfl) ?_ nd
    obtain ⟨⟨t6, h6⟩, ⟨t8, h8'⟩⟩ := F.mx
    have r6 : RelV (.int 6) (.int 6 t6) := ⟨t6, rfl⟩
    have r8 : RelV (.int 8) (.int 8 t8) := ⟨t8, rfl⟩
    have sok := rep_ok (k := z) (a := z) (by omega) (by omega) (by omega)
    have i11 := one_one z2 z4
    refine zss_ret (r := .d (.bool true)) (ZE.x (ze_and (k := true) (ZE.x (ze_inZ (ds := (winsB (List.replicate z z)).map pB) (.d (pB (1, 1))) (.d _) (.inr rfl) (ze_tup (ds := [.int 1, .int 1]) (za_cons ze_int (za_cons ze_int za_nil))) (ze_callS (List.replicate z z) F.wins (za_cons (ZE.x (ze_repT (ds := [nI z]) (k := (z : Int)) (by simp) (by omega) (by omega) (by simp) (ze_tup (ds := [nI z]) (za_cons (ze_var 16 rfl) za_nil)) (ze_var 16 rfl)) (by rw [rep_flat, Int.toNat_natCast, rep_bar])) za_nil) sok rfl hr) (pB_plain _) rfl (by
      have : (pB (1, 1)).depth = 1 := by simp [pB, PyData.depth, PyData.depthAll]
      have := pB_deps (winsB (List.replicate z z))
      have hu2 : (cxOf CX0 P w K mg base ["script", "box", "met", "turn", "bar", "wins", "i", "j", "rows", "step", "value", "m", "n", "a", "b", "k", "size"] "law" (defScope s_law) f cdv Ar outer s H E).nox.A.units + 64 < cLine := hu
      omega)) (congrArg PyData.bool (List.any_eq_true.mpr ⟨pB (1, 1), List.mem_map.mpr ⟨_, i11, rfl⟩, by decide⟩))) fun _ => ze_one (ze_callS (.tuple [.int 6, .int 8], .tuple [.int 6, .int 8]) F.same (za_cons (ze_tup (ds := [.int 6, .int 8]) (za_cons (ze_glob h6 r6 (show flat (.int _) (.int _) from rfl)) (za_cons (ze_glob h8' r8 (show flat (.int _) (.int _) from rfl)) za_nil))) (za_cons (ze_tup (ds := [.int 6, .int 8]) (za_cons ze_int (za_cons ze_int za_nil))) za_nil)) ⟨rfl, rfl, by simp [PyData.depth, PyData.depthAll]⟩ rfl hr)) (by simp [same, sames, rSm])) ⟨rfl, rfl⟩
end
end K66

namespace K66
open PySem L2 PyProof.Rows Z
section
variable {P : Program} {w : World} {K : PySem.W.Frag} {mg : Str → Option Value}
structure Ds (K : PySem.W.Frag) (mg : Str → Option Value) : Prop where
  dis_number : Dfn K mg "is_number" s_is_number ["value", "least", "most"]
  dis_bar : Dfn K mg "is_bar" s_is_bar ["value"]
  dbitten : Dfn K mg "bitten" s_bitten ["bar", "i", "j"]
  dbites_of : Dfn K mg "bites_of" s_bites_of ["bar"]
  dknown_lost : Dfn K mg "known_lost" s_known_lost ["bar", "known"]
  dis_lost_bar : Dfn K mg "is_lost_bar" s_is_lost_bar ["bar"]
  dwinning_bites : Dfn K mg "winning_bites" s_winning_bites ["bar"]
  dbars_to : Dfn K mg "bars_to" s_bars_to ["m", "n"]
  dlost_bars : Dfn K mg "lost_bars" s_lost_bars ["m", "n"]
  d_law_box : Dfn K mg "_law_box" s__law_box ["script"]
  d_law_load : Dfn K mg "_law_load" s__law_load ["box"]
  d_law_draw : Dfn K mg "_law_draw" s__law_draw ["box", "many"]
  d_law_same : Dfn K mg "_law_same" s__law_same ["a", "b"]
  d_law_bent : Dfn K mg "_law_bent" s__law_bent ["box", "value"]
  d_law_bite : Dfn K mg "_law_bite" s__law_bite ["bar", "i", "j"]
  d_law_lost : Dfn K mg "_law_lost" s__law_lost ["bar", "met"]
  d_law_is_bar : Dfn K mg "_law_is_bar" s__law_is_bar ["value"]
  d_law_bar : Dfn K mg "_law_bar" s__law_bar ["box", "rows", "width"]
  d_law_all : Dfn K mg "_law_all" s__law_all ["m", "n"]
  n_abs : mg "abs" = none
  n_all : mg "all" = none
  n_any : mg "any" = none
  n_bool : mg "bool" = none
  n_int : mg "int" = none
  n_isinstance : mg "isinstance" = none
  n_len : mg "len" = none
  n_list : mg "list" = none
  n_max : mg "max" = none
  n_min : mg "min" = none
  n_range : mg "range" = none
  n_sorted : mg "sorted" = none
  n_str : mg "str" = none
  n_tuple : mg "tuple" = none
  i_MAX_ROWS : ∃ t, mg "MAX_ROWS" = some (.int 6 t)
  i_MAX_WIDTH : ∃ t, mg "MAX_WIDTH" = some (.int 8 t)
theorem mg_int_of {h : Heap} {n : Str} {i : Int} {t : Tok} (X : K.In h) (G : h.Ns PySem.mainGlobals mg) (e : PySem.W.nsIn K PySem.mainGlobals n = some (some (.int i t))) : ∃ t, mg n = some (.int i t) := ⟨t, PySem.W.mg_of X G e⟩
theorem fs_of {base : Heap} (D : Ds K mg) : Fs P w K mg base where
  box := c_box D.d_law_box D.n_len D.n_list
  draw := c_draw D.d_law_draw (c_load D.d_law_load D.n_len D.n_int) D.n_int
  same := c_same D.d_law_same ⟨D.n_isinstance, D.n_tuple, D.n_list, D.n_bool, D.n_int, D.n_str, D.n_len, D.n_all, D.n_range⟩ 2
  bar := c_bar D.d_law_bar (c_draw D.d_law_draw (c_load D.d_law_load D.n_len D.n_int) D.n_int) D.n_range D.n_tuple
  ilost := c_lost D.dis_lost_bar (c_known D.dknown_lost (c_bitten D.dbitten D.n_tuple D.n_min) (c_of D.dbites_of D.n_range D.n_len) D.n_any 48)
  llost := c_llost D.d_law_lost (c_lbite D.d_law_bite D.n_range D.n_len D.n_tuple) D.n_range D.n_len 48
  bitten := c_bitten D.dbitten D.n_tuple D.n_min
  lbite := c_lbite D.d_law_bite D.n_range D.n_len D.n_tuple
  wins := c_wins D.dwinning_bites (c_known D.dknown_lost (c_bitten D.dbitten D.n_tuple D.n_min) (c_of D.dbites_of D.n_range D.n_len) D.n_any 48) (c_bitten D.dbitten D.n_tuple D.n_min) (c_of D.dbites_of D.n_range D.n_len) D.n_tuple
  bent := c_bentT D.d_law_bent (c_draw D.d_law_draw (c_load D.d_law_load D.n_len D.n_int) D.n_int) (c_bentI D.d_law_bent (c_draw D.d_law_draw (c_load D.d_law_load D.n_len D.n_int) D.n_int) ⟨D.n_isinstance, D.n_tuple, D.n_list, D.n_bool, D.n_int, D.n_str, D.n_len, D.n_all, D.n_range⟩) ⟨D.n_isinstance, D.n_tuple, D.n_list, D.n_bool, D.n_int, D.n_str, D.n_len, D.n_all, D.n_range⟩
  isbar := c_isbar D.dis_bar (c_num D.dis_number D.n_isinstance D.n_int D.n_bool) ⟨D.n_isinstance, D.n_tuple, D.n_list, D.n_bool, D.n_int, D.n_str, D.n_len, D.n_all, D.n_range⟩ ⟨D.i_MAX_ROWS, D.i_MAX_WIDTH⟩
  lisbar := c_lisbar D.d_law_is_bar ⟨D.n_isinstance, D.n_tuple, D.n_list, D.n_bool, D.n_int, D.n_str, D.n_len, D.n_all, D.n_range⟩ D.n_any
  losts := c_losts D.dlost_bars (c_known D.dknown_lost (c_bitten D.dbitten D.n_tuple D.n_min) (c_of D.dbites_of D.n_range D.n_len) D.n_any 48) (c_to D.dbars_to D.n_range D.n_sorted) D.n_tuple
  all_ := c_all D.d_law_all D.n_range D.n_sorted D.n_len
  mx := ⟨D.i_MAX_ROWS, D.i_MAX_WIDTH⟩
  m1 := D.n_range
  m2 := D.n_len
  m3 := D.n_tuple
  m4 := D.n_all
  m5 := D.n_min
  m6 := D.n_max
  m7 := D.n_abs
theorem all_mk {h : Heap} {fa f2 : Addr} (X : K.In h) (G : h.Ns PySem.mainGlobals mg) (hfa : mg "law" = some (.ref fa)) (D : Ds K mg) {od2 an2 : Option Addr} {sl2 : Array (Option Value)} {oc2 kV2 dc2 pm2 cd2 ct2 : Value}
    (a2 : PySem.W.nsIn K PySem.mainGlobals "law" = some (some (.ref f2))) (l2 : K.lookup f2 = some ⟨oc2, od2, .func (PySem.W.fnOf "law" "law" (defArgs s_law) (defBody s_law) (defScope s_law) .none kV2 dc2 pm2 an2 cd2 ct2), sl2⟩) (c2 : PySem.W.codeIn K cd2 "law" = true) (k2 : PySem.W.keepIn K (.ref f2) = true) :
    ∃ fd : FuncData, (∀ (s : Shared) (v : Value), BindsTo s fd ⟨[v], []⟩ [("script", v)]) ∧ ∀ base : Heap, K.In base → base.Ns PySem.mainGlobals mg → FnOk P w K mg base CX0 61 fa fd ["script"] (spL K) := by
  have e := hfa.symm.trans (PySem.W.mg_of X G a2)
  cases e
  have F2 := fun_mk (st := s_law) l2 c2 k2
  exact ⟨_, fun s v => .of_eq rfl, fun base _ _ => law_fn F2 (PySem.W.mg_of X G a2) sc_law (law_body (fs_of D))⟩
end
end K66
open PySem PySem.W PyProof.Rows
set_option maxHeartbeats 0 in
theorem PySem.Challenge.cw_cantmove_k66_whole_bars_holds : PySem.Challenge.rw_cantmove_k66_whole_bars.Holds := by
  w_on; o_law; k_head; (case hw => w_witness2)
  k_fill
  refine L2.walk_ofB (l := PySem.Challenge.rw_cantmove_k66_whole_bars) (n := 63) (k := 61) (x := "script") (CX := fun _ => L2.CX0) (sp := fun w => Z.spL _) rfl (by decide) rfl ⟨rfl, by decide, by decide⟩ (fun w h Y => PySem.W.kIn_of Y) ?F (fun _ _ a ns hl _ _ hS => Z.head_ok hl hS) (fun _ _ _ _ _ h => h)
  case F =>
    intro w mg fa h KX G hmg
    refine' K66.all_mk KX G hmg ?D ?a2 ?l2 ?c2 ?k2
    (case a2 => k_is); (case l2 => k_is); (case c2 => k_is); (case k2 => k_is)
    case D =>
      constructor
      · refine' Z.fn_dfn KX G ?aD ?lD ?cD ?kD (fun _ _ _ _ _ _ us hl => match us, hl with | [_, _, _], _ => rfl)
        (case aD => k_is); (case lD => k_is); (case cD => k_is); (case kD => k_is)
      · refine' Z.fn_dfn KX G ?aD ?lD ?cD ?kD (fun _ _ _ _ _ _ us hl => match us, hl with | [_], _ => rfl)
        (case aD => k_is); (case lD => k_is); (case cD => k_is); (case kD => k_is)
      · refine' Z.fn_dfn KX G ?aD ?lD ?cD ?kD (fun _ _ _ _ _ _ us hl => match us, hl with | [_, _, _], _ => rfl)
        (case aD => k_is); (case lD => k_is); (case cD => k_is); (case kD => k_is)
      · refine' Z.fn_dfn KX G ?aD ?lD ?cD ?kD (fun _ _ _ _ _ _ us hl => match us, hl with | [_], _ => rfl)
        (case aD => k_is); (case lD => k_is); (case cD => k_is); (case kD => k_is)
      · refine' Z.fn_dfn KX G ?aD ?lD ?cD ?kD (fun _ _ _ _ _ _ us hl => match us, hl with | [_, _], _ => rfl)
        (case aD => k_is); (case lD => k_is); (case cD => k_is); (case kD => k_is)
      · refine' Z.fn_dfn KX G ?aD ?lD ?cD ?kD (fun _ _ _ _ _ _ us hl => match us, hl with | [_], _ => rfl)
        (case aD => k_is); (case lD => k_is); (case cD => k_is); (case kD => k_is)
      · refine' Z.fn_dfn KX G ?aD ?lD ?cD ?kD (fun _ _ _ _ _ _ us hl => match us, hl with | [_], _ => rfl)
        (case aD => k_is); (case lD => k_is); (case cD => k_is); (case kD => k_is)
      · refine' Z.fn_dfn KX G ?aD ?lD ?cD ?kD (fun _ _ _ _ _ _ us hl => match us, hl with | [_, _], _ => rfl)
        (case aD => k_is); (case lD => k_is); (case cD => k_is); (case kD => k_is)
      · refine' Z.fn_dfn KX G ?aD ?lD ?cD ?kD (fun _ _ _ _ _ _ us hl => match us, hl with | [_, _], _ => rfl)
        (case aD => k_is); (case lD => k_is); (case cD => k_is); (case kD => k_is)
      · refine' Z.fn_dfn KX G ?aD ?lD ?cD ?kD (fun _ _ _ _ _ _ us hl => match us, hl with | [_], _ => rfl)
        (case aD => k_is); (case lD => k_is); (case cD => k_is); (case kD => k_is)
      · refine' Z.fn_dfn KX G ?aD ?lD ?cD ?kD (fun _ _ _ _ _ _ us hl => match us, hl with | [_], _ => rfl)
        (case aD => k_is); (case lD => k_is); (case cD => k_is); (case kD => k_is)
      · refine' Z.fn_dfn KX G ?aD ?lD ?cD ?kD (fun _ _ _ _ _ _ us hl => match us, hl with | [_, _], _ => rfl)
        (case aD => k_is); (case lD => k_is); (case cD => k_is); (case kD => k_is)
      · refine' Z.fn_dfn KX G ?aD ?lD ?cD ?kD (fun _ _ _ _ _ _ us hl => match us, hl with | [_, _], _ => rfl)
        (case aD => k_is); (case lD => k_is); (case cD => k_is); (case kD => k_is)
      · refine' Z.fn_dfn KX G ?aD ?lD ?cD ?kD (fun _ _ _ _ _ _ us hl => match us, hl with | [_, _], _ => rfl)
        (case aD => k_is); (case lD => k_is); (case cD => k_is); (case kD => k_is)
      · refine' Z.fn_dfn KX G ?aD ?lD ?cD ?kD (fun _ _ _ _ _ _ us hl => match us, hl with | [_, _, _], _ => rfl)
        (case aD => k_is); (case lD => k_is); (case cD => k_is); (case kD => k_is)
      · refine' Z.fn_dfn KX G ?aD ?lD ?cD ?kD (fun _ _ _ _ _ _ us hl => match us, hl with | [_, _], _ => rfl)
        (case aD => k_is); (case lD => k_is); (case cD => k_is); (case kD => k_is)
      · refine' Z.fn_dfn KX G ?aD ?lD ?cD ?kD (fun _ _ _ _ _ _ us hl => match us, hl with | [_], _ => rfl)
        (case aD => k_is); (case lD => k_is); (case cD => k_is); (case kD => k_is)
      · refine' Z.fn_dfn KX G ?aD ?lD ?cD ?kD (fun _ _ _ _ _ _ us hl => match us, hl with | [_, _, _], _ => rfl)
        (case aD => k_is); (case lD => k_is); (case cD => k_is); (case kD => k_is)
      · refine' Z.fn_dfn KX G ?aD ?lD ?cD ?kD (fun _ _ _ _ _ _ us hl => match us, hl with | [_, _], _ => rfl)
        (case aD => k_is); (case lD => k_is); (case cD => k_is); (case kD => k_is)
      · refine' PySem.W.mg_none_of KX G ?zD
        (case zD => k_is)
      · refine' PySem.W.mg_none_of KX G ?zD
        (case zD => k_is)
      · refine' PySem.W.mg_none_of KX G ?zD
        (case zD => k_is)
      · refine' PySem.W.mg_none_of KX G ?zD
        (case zD => k_is)
      · refine' PySem.W.mg_none_of KX G ?zD
        (case zD => k_is)
      · refine' PySem.W.mg_none_of KX G ?zD
        (case zD => k_is)
      · refine' PySem.W.mg_none_of KX G ?zD
        (case zD => k_is)
      · refine' PySem.W.mg_none_of KX G ?zD
        (case zD => k_is)
      · refine' PySem.W.mg_none_of KX G ?zD
        (case zD => k_is)
      · refine' PySem.W.mg_none_of KX G ?zD
        (case zD => k_is)
      · refine' PySem.W.mg_none_of KX G ?zD
        (case zD => k_is)
      · refine' PySem.W.mg_none_of KX G ?zD
        (case zD => k_is)
      · refine' PySem.W.mg_none_of KX G ?zD
        (case zD => k_is)
      · refine' PySem.W.mg_none_of KX G ?zD
        (case zD => k_is)
      · refine' K66.mg_int_of KX G ?zD
        (case zD => k_is)
      · refine' K66.mg_int_of KX G ?zD
        (case zD => k_is)
