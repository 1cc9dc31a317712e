import PyProof.Rows.All
import Wide.All
import OpenK.AllK
import Wide.FinOn
import HandS.ForExc
import HandS.ForMost
import HandS.Wide
import HandS.EndBits
import HandS.Codes
import HandS.Deep
import HandS.TupAny
import HandS.TupMul
import HandS.TupLe
import HandS.Flow
import HandS.Conv
import HandS.Style
import HandS.IsInst
import KE.SortData
import KE.DataEq
import HandS.TupSets
import KE.GoesMore
import HandS.DictComp
import KE.KDictSum
import KE.KTupSum
import KE.DataMinMax
import PyProof.TupleOfSeq
import HandS.SetFor
import HandS.Strs
import HandS.SetIn
import KE.KDictPairs
import PyProof.LongRange
import HandS.Small
import HandS.Text
import HandS.Exc
import HandS.ExcOwn
import HandS.ExcIs
import HandS.WordsExc
import PySem.Challenge.RW_cantmove_k61_whole_products
set_option Elab.async false
set_option linter.all false
set_option autoImplicit false
set_option maxRecDepth 100000
set_option maxHeartbeats 4000000
namespace Z
open PySem L2

def Ext (F H : Hp) : Prop := ∀ a o, F a = some o → H a = some o
theorem Ext.refl (F : Hp) : Ext F F := fun _ _ h => h
theorem Ext.trans {F G H : Hp} (a : Ext F G) (b : Ext G H) : Ext F H := fun x o h => b x o (a x o h)
theorem Ext.up {F : Hp} {p : Addr} {o : HO} (h : F p = none) : Ext F (upd F p o) := fun a u e => by
  rw [upd_ne (ne_of_none e h)]
  exact e
theorem Ext.rd {F H : Hp} {a : Addr} {u : HO} (e : Ext F H) (h : Rd F a u) : Rd H a u := by
  rcases h with h | ⟨o, h⟩
  · exact .inl (e a _ h)
  · exact .inr ⟨o, e a _ h⟩
theorem Ext.l {K : PySem.W.Frag} {F H : Hp} {a : Addr} {xs : List V} (e : Ext F H) (h : SqL K F a xs) : SqL K H a xs := h.elim (fun z => .inl (e.rd z)) .inr
theorem Ext.t {K : PySem.W.Frag} {F H : Hp} {a : Addr} {xs : List V} (e : Ext F H) (h : SqT K F a xs) : SqT K H a xs := h.elim (fun z => .inl (e.rd z)) .inr

mutual
theorem dpUp {K : PySem.W.Frag} {F H : Hp} (e : Ext F H) : ∀ (d : PyData) (v : V), Dp K F v d → Dp K H v d
  | .none, _, h => by cases h; exact .non
  | .bool b, _, h => by cases h; exact .bl b
  | .int i, _, h => by cases h; exact .int i
  | .str x, _, h => by cases h; exact .str x
  | .list ds, _, h => by
    cases h with
    | lst hs ha => exact .lst (e.l hs) (dpsUp e ds _ ha)
  | .tuple ds, _, h => by
    cases h with
    | tup hs ha => exact .tup (e.t hs) (dpsUp e ds _ ha)
  | .dict _, _, h => by cases h
theorem dpsUp {K : PySem.W.Frag} {F H : Hp} (e : Ext F H) : ∀ (ds : List PyData) (vs : List V), DpAll K F vs ds → DpAll K H vs ds
  | [], _, h => by cases h; exact .nil
  | d :: ds, _, h => by
    cases h with
    | cons h1 h2 => exact .cons (dpUp e d _ h1) (dpsUp e ds _ h2)
end
theorem dpsLen {K : PySem.W.Frag} {F : Hp} : ∀ {ds : List PyData} {vs : List V}, DpAll K F vs ds → vs.length = ds.length
  | [], _, h => by cases h; rfl
  | d :: ds, _, h => by
    cases h with
    | cons h1 h2 => simp [dpsLen h2]
theorem dpsGet {K : PySem.W.Frag} {F : Hp} : ∀ {ds : List PyData} {vs : List V} {i : Nat} {x : PyData}, DpAll K F vs ds → ds[i]? = some x → ∃ v, vs[i]? = some v ∧ Dp K F v x
  | [], _, i, x, h, e => by simp at e
  | d :: ds, _, 0, x, h, e => by
    cases h with
    | cons h1 h2 => simp at e; subst e; exact ⟨_, rfl, h1⟩
  | d :: ds, _, i + 1, x, h, e => by
    cases h with
    | cons h1 h2 =>
      rw [List.getElem?_cons_succ] at e
      obtain ⟨v, h3, h4⟩ := dpsGet h2 e
      exact ⟨v, by rw [List.getElem?_cons_succ]; exact h3, h4⟩
theorem dpsApp {K : PySem.W.Frag} {F : Hp} : ∀ {ds es : List PyData} {vs ws : List V}, DpAll K F vs ds → DpAll K F ws es → DpAll K F (vs ++ ws) (ds ++ es)
  | [], _, _, _, h, g => by cases h; exact g
  | d :: ds, _, _, _, h, g => by
    cases h with
    | cons h1 h2 => exact .cons h1 (dpsApp h2 g)
theorem dpsTake {K : PySem.W.Frag} {F : Hp} : ∀ {ds : List PyData} {vs : List V} (n : Nat), DpAll K F vs ds → DpAll K F (vs.take n) (ds.take n)
  | _, _, 0, _ => .nil
  | [], _, n + 1, h => by cases h; exact .nil
  | d :: ds, _, n + 1, h => by
    cases h with
    | cons h1 h2 => exact .cons h1 (dpsTake n h2)
theorem dpsDrop {K : PySem.W.Frag} {F : Hp} : ∀ {ds : List PyData} {vs : List V} (n : Nat), DpAll K F vs ds → DpAll K F (vs.drop n) (ds.drop n)
  | _, _, 0, h => h
  | [], _, n + 1, h => by cases h; exact .nil
  | d :: ds, _, n + 1, h => by
    cases h with
    | cons h1 h2 => exact dpsDrop n h2
/-- a thing of its own: what is true of it (the frozen heap, the heap, the value, its addresses) -/
structure Own where
  holds : PySem.W.Frag → Hp → Hp → V → List Addr → Prop
  stay : ∀ {K : PySem.W.Frag} {F F' H H' : Hp} {v : V} {fp : List Addr}, holds K F H v fp → Ext F F' → (∀ a ∈ fp, ∀ o, H a = some o → H' a = some o) → holds K F' H' v fp

inductive IT where
  | un | d (x : PyData) | o (P : Own)
/-- an entry: what it is, its value -/
abbrev En := IT × Option V
def Ent (K : PySem.W.Frag) (F H : Hp) : IT → Option V → List Addr → Prop
  | .un, _, fp => fp = []
  | .d x, v, fp => fp = [] ∧ ∃ u, v = some u ∧ Dp K F u x
  | .o P, v, fp => ∃ u, v = some u ∧ P.holds K F H u fp
abbrev EF := En × List Addr
def fpsOf (L : List EF) : List Addr := L.flatMap (·.2)
structure Held (K : PySem.W.Frag) (F H : Hp) (L : List EF) : Prop where
  ext : Ext F H
  ent : ∀ x ∈ L, Ent K F H x.1.1 x.1.2 x.2
  nd : (fpsOf L).Nodup
  own : ∀ a ∈ fpsOf L, F a = none ∧ ∃ o, H a = some o
def OK (K : PySem.W.Frag) (l : List En) (H : Hp) : Prop := ∃ F L, L.map (·.1) = l ∧ Held K F H L

theorem mem_fps {L : List EF} {a : Addr} : a ∈ fpsOf L ↔ ∃ x ∈ L, a ∈ x.2 := by
  unfold fpsOf
  rw [List.mem_flatMap]
theorem Ent.up {K : PySem.W.Frag} {F F' H H' : Hp} (e : Ext F F') : ∀ {i : IT} {v : Option V} {fp : List Addr}, Ent K F H i v fp → (∀ a ∈ fp, ∀ o, H a = some o → H' a = some o) → Ent K F' H' i v fp
  | .un, _, _, h, _ => h
  | .d x, _, _, ⟨h1, u, h2, h3⟩, _ => ⟨h1, u, h2, dpUp e x u h3⟩
  | .o P, _, _, ⟨u, h1, h2⟩, k => ⟨u, h1, P.stay h2 e k⟩

section
variable {K : PySem.W.Frag} {H H' : Hp} {l l' : List En}

theorem lift_perm : ∀ {l l' : List En} (p : l.Perm l') {L : List EF}, L.map (·.1) = l → ∃ L', L'.map (·.1) = l' ∧ L.Perm L' := by
  intro l l' p
  induction p with
  | nil => intro L h; exact ⟨L, h, .refl _⟩
  | cons x p ih =>
    intro L h
    cases L with
    | nil => simp at h
    | cons y L =>
      simp at h
      obtain ⟨h1, h2⟩ := h
      obtain ⟨L', e, q⟩ := ih h2
      exact ⟨y :: L', by simp [h1, e], q.cons y⟩
  | swap x y l =>
    intro L h
    match L, h with
    | a :: b :: L, h =>
      simp at h
      obtain ⟨h1, h2, h3⟩ := h
      exact ⟨b :: a :: L, by simp [h1, h2, h3], List.Perm.swap b a L⟩
  | trans p q ih1 ih2 =>
    intro L h
    obtain ⟨L1, e1, q1⟩ := ih1 h
    obtain ⟨L2, e2, q2⟩ := ih2 e1
    exact ⟨L2, e2, q1.trans q2⟩
theorem fps_perm {L L' : List EF} (p : L.Perm L') : (fpsOf L).Perm (fpsOf L') := by
  unfold fpsOf
  exact List.Perm.flatMap_right _ p
theorem Held.perm {F : Hp} {L L' : List EF} (p : L.Perm L') (h : Held K F H L) : Held K F H L' :=
  ⟨h.ext, fun x hx => h.ent x (p.mem_iff.mpr hx), (fps_perm p).nodup_iff.mp h.nd, fun a ha => h.own a ((fps_perm p).mem_iff.mpr ha)⟩
theorem OK.perm (p : l.Perm l') (h : OK K l H) : OK K l' H := by
  obtain ⟨F, L, e, g⟩ := h
  obtain ⟨L', e', q⟩ := lift_perm p e
  exact ⟨F, L', e', g.perm q⟩
theorem Held.tail {F : Hp} {x : EF} {L : List EF} (h : Held K F H (x :: L)) : Held K F H L :=
  ⟨h.ext, fun y hy => h.ent y (List.mem_cons_of_mem _ hy), (by
    have := h.nd
    unfold fpsOf at this
    rw [List.flatMap_cons] at this
    exact (List.nodup_append.mp this).2.1), fun a ha => h.own a (by
    unfold fpsOf
    rw [List.flatMap_cons]
    exact List.mem_append_right _ ha)⟩
theorem OK.tail {x : En} (h : OK K (x :: l) H) : OK K l H := by
  obtain ⟨F, L, e, g⟩ := h
  cases L with
  | nil => simp at e
  | cons y L => simp at e; exact ⟨F, L, e.2, g.tail⟩
theorem OK.right {k : List En} (h : OK K (k ++ l) H) : OK K l H := by
  induction k with
  | nil => exact h
  | cons x k ih => exact ih (OK.tail h)
theorem OK.left {k : List En} (h : OK K (l ++ k) H) : OK K l H := OK.right (k := k) (h.perm List.perm_append_comm)
theorem set_perm {α : Type} : ∀ {l : List α} {i : Nat} {y x : α}, l[i]? = some y → (x :: l).Perm (y :: l.set i x)
  | [], i, y, x, h => by simp at h
  | a :: l, 0, y, x, h => by
    simp at h
    subst h
    exact List.Perm.swap _ _ _
  | a :: l, i + 1, y, x, h => by
    have ih := set_perm (l := l) (i := i) (y := y) (x := x) (by simpa using h)
    rw [List.set_cons_succ]
    exact (List.Perm.swap a x l).trans ((ih.cons a).trans (List.Perm.swap y a _))
/-- a new entry in the place of the i-th -/
theorem OK.set {x : En} (i : Nat) (h : OK K (x :: l) H) : OK K (l.set i x) H := by
  cases e : l[i]? with
  | none =>
    rw [List.set_eq_of_length_le (List.getElem?_eq_none_iff.mp e)]
    exact h.tail
  | some y => exact (h.perm (set_perm e)).tail
/-- the i-th entry to the front, another in its place -/
theorem Held.unCons {F : Hp} {L : List EF} {v : Option V} (h : Held K F H L) : Held K F H (((IT.un, v), []) :: L) :=
  ⟨h.ext, fun y hy => by
    rcases List.mem_cons.mp hy with e | e
    · subst e; rfl
    · exact h.ent y e, by unfold fpsOf; rw [List.flatMap_cons]; exact h.nd, fun a ha => h.own a (by unfold fpsOf at ha ⊢; rw [List.flatMap_cons] at ha; exact ha)⟩
theorem OK.un {v : Option V} (h : OK K l H) : OK K ((IT.un, v) :: l) H := by
  obtain ⟨F, L, e, g⟩ := h
  exact ⟨F, ((IT.un, v), []) :: L, by rw [List.map_cons, e], g.unCons⟩
theorem OK.out {i : Nat} {x : IT} {v : Option V} (e : l[i]? = some (x, v)) (h : OK K l H) : OK K ((x, v) :: l.set i (IT.un, v)) H := (h.un (v := v)).perm (set_perm e)
/-- a known datum once more -/
theorem Held.dCons {F : Hp} {L : List EF} {v : V} {x : PyData} (h : Held K F H L) (hd : Dp K F v x) : Held K F H (((IT.d x, some v), []) :: L) :=
  ⟨h.ext, fun y hy => by
    rcases List.mem_cons.mp hy with e | e
    · subst e; exact ⟨rfl, v, rfl, hd⟩
    · exact h.ent y e, by unfold fpsOf; rw [List.flatMap_cons]; exact h.nd, fun a ha => h.own a (by unfold fpsOf at ha ⊢; rw [List.flatMap_cons] at ha; exact ha)⟩
theorem mem_map1 {L : List EF} {y : En} (h : y ∈ L.map (·.1)) : ∃ fp, (y, fp) ∈ L := by
  obtain ⟨z, hz, e⟩ := List.mem_map.mp h
  exact ⟨z.2, by rw [← e]; exact hz⟩
theorem OK.dup {x : PyData} {v : Option V} (m : (IT.d x, v) ∈ l) (h : OK K l H) : ∃ u, v = some u ∧ Dp K H u x ∧ OK K ((IT.d x, some u) :: l) H := by
  obtain ⟨F, L, e, g⟩ := h
  subst e
  obtain ⟨fp, hm⟩ := mem_map1 m
  obtain ⟨_, u, e1, hd⟩ := g.ent _ hm
  exact ⟨u, e1, dpUp g.ext x u hd, F, _, by simp, g.dCons hd⟩
/-- plain values need nothing of the heap -/
def flat : V → PyData → Prop
  | .non, .none => True
  | .bl b, .bool c => b = c
  | .int i, .int j => i = j
  | .str x, .str y => x = y
  | _, _ => False
theorem flatDp {F : Hp} {v : V} {x : PyData} (h : flat v x) : Dp K F v x := by
  cases v <;> cases x <;> first | exact h.elim | skip
  · exact .non
  · have e : _ = _ := h; subst e; exact .bl _
  · have e : _ = _ := h; subst e; exact .int _
  · have e : _ = _ := h; subst e; exact .str _
theorem OK.flat {x : PyData} {v : V} (f : flat v x) (h : OK K l H) : OK K ((IT.d x, some v) :: l) H := by
  obtain ⟨F, L, e, g⟩ := h
  exact ⟨F, _, by simp [e], g.dCons (flatDp f)⟩

def ds2 (ds : List PyData) (vs : List V) : List En := List.zipWith (fun x v => (IT.d x, some v)) ds vs
theorem held_ds {F : Hp} : ∀ {ds : List PyData} {vs : List V} {L : List EF}, ds.length = vs.length → L.map (·.1) = ds2 ds vs ++ l → Held K F H L → DpAll K F vs ds
  | [], [], L, _, _, _ => .nil
  | d :: ds, v :: vs, L, h, e, g => by
    cases L with
    | nil => simp [ds2] at e
    | cons y L =>
      simp only [ds2, List.zipWith_cons_cons, List.map_cons, List.cons_append, List.cons.injEq] at e
      obtain ⟨e1, e2⟩ := e
      have k := g.ent y List.mem_cons_self
      rw [e1] at k
      obtain ⟨_, u, eu, hd⟩ := k
      cases eu
      exact .cons hd (held_ds (by simpa using h) e2 g.tail)
  | [], v :: vs, L, h, _, _ => by simp at h
  | d :: ds, [], L, h, _, _ => by simp at h
theorem Held.grow {F F' : Hp} {L : List EF} (h : Held K F H L) (e1 : Ext F F') (e2 : Ext F' H') (k : ∀ a ∈ fpsOf L, ∀ o, H a = some o → H' a = some o) (n : ∀ a ∈ fpsOf L, F' a = none) : Held K F' H' L :=
  ⟨e2, fun x hx => (h.ent x hx).up e1 fun a ha o ho => k a (mem_fps.mpr ⟨x, hx, ha⟩) o ho, h.nd, fun a ha => ⟨n a ha, by
    obtain ⟨o, ho⟩ := (h.own a ha).2
    exact ⟨o, k a ha o ho⟩⟩⟩
theorem ext_none {F : Hp} {p : Addr} (e : Ext F H) (h : H p = none) : F p = none := by
  cases q : F p with
  | none => rfl
  | some o => rw [e p o q] at h; cases h
/-- a new thing laid, of the frozen part -/
theorem Held.frozen {F : Hp} {L : List EF} {p : Addr} {o : HO} (h : Held K F H L) (hp : H p = none) : Held K (upd F p o) (upd H p o) L := by
  have np : ∀ a ∈ fpsOf L, a ≠ p := fun a ha z => by
    obtain ⟨u, hu⟩ := (h.own a ha).2
    rw [z, hp] at hu
    cases hu
  refine h.grow (Ext.up (ext_none h.ext hp)) (fun a u q => ?_) (fun a ha u hu => ?_) fun a ha => ?_
  · by_cases e : a = p
    · subst e; rw [upd_same] at q ⊢; exact q
    · rw [upd_ne e] at q ⊢; exact h.ext a u q
  · rw [upd_ne (np a ha)]; exact hu
  · rw [upd_ne (np a ha)]; exact (h.own a ha).1
/-- .. of its own -/
theorem Held.fresh {F : Hp} {L : List EF} {p : Addr} {o : HO} (h : Held K F H L) (hp : H p = none) : Held K F (upd H p o) L :=
  h.grow (Ext.refl F) (fun a u q => by
    have e := h.ext a u q
    rw [upd_ne (ne_of_none e hp)]
    exact e) (fun a ha u hu => by rw [upd_ne (ne_of_none hu hp)]; exact hu) fun a ha => (h.own a ha).1
theorem OK.split {k : List En} (h : OK K (k ++ l) H) : ∃ F L1 L2, L1.map (·.1) = k ∧ L2.map (·.1) = l ∧ Held K F H (L1 ++ L2) := by
  obtain ⟨F, L, e, g⟩ := h
  obtain ⟨L1, L2, e1, e2, e3⟩ := List.map_eq_append_iff.mp e
  subst e1
  exact ⟨F, L1, L2, e2, e3, g⟩
theorem Held.right {F : Hp} {L1 L2 : List EF} (h : Held K F H (L1 ++ L2)) : Held K F H L2 := by
  induction L1 with
  | nil => exact h
  | cons x L ih => exact ih h.tail
theorem OK.tup {ds : List PyData} {vs : List V} {p : Addr} (hl : ds.length = vs.length) (h : OK K (ds2 ds vs ++ l) H) (hp : H p = none) : OK K ((IT.d (.tuple ds), some (.ref p)) :: l) (upd H p (.tup vs)) := by
  obtain ⟨F, L1, L2, e1, e2, g⟩ := h.split
  have q : DpAll K F vs ds := held_ds (l := l) hl (by rw [List.map_append, e1, e2]) g
  have q2 : DpAll K (upd F p (.tup vs)) vs ds := dpsUp (Ext.up (ext_none g.ext hp)) ds vs q
  exact ⟨_, _, by simp [e2], (g.right.frozen hp).dCons (.tup (.of upd_same) q2)⟩
/-- a list of its own -/
def OL (ds : List PyData) : Own where
  holds := fun K F H v fp => ∃ p vs, v = .ref p ∧ fp = [p] ∧ H p = some (.lst vs) ∧ DpAll K F vs ds
  stay := fun ⟨p, vs, e1, e2, e3, e4⟩ e k => ⟨p, vs, e1, e2, k p (by rw [e2]; simp) _ e3, dpsUp e _ _ e4⟩
theorem Held.oCons {F : Hp} {L : List EF} {v : V} {P : Own} {fp : List Addr} (h : Held K F H L) (hP : P.holds K F H v fp) (nd : fp.Nodup) (dj : ∀ a ∈ fp, a ∉ fpsOf L) (ow : ∀ a ∈ fp, F a = none ∧ ∃ o, H a = some o) : Held K F H (((IT.o P, some v), fp) :: L) := by
  refine ⟨h.ext, fun y hy => ?_, ?_, fun a ha => ?_⟩
  · rcases List.mem_cons.mp hy with e | e
    · subst e; exact ⟨v, rfl, hP⟩
    · exact h.ent y e
  · unfold fpsOf
    rw [List.flatMap_cons]
    exact List.nodup_append.mpr ⟨nd, h.nd, fun a ha b hb z => dj a ha (by rw [z]; exact hb)⟩
  · unfold fpsOf at ha
    rw [List.flatMap_cons] at ha
    rcases List.mem_append.mp ha with ha | ha
    · exact ow a ha
    · exact h.own a ha
theorem OK.lst {ds : List PyData} {vs : List V} {p : Addr} (hl : ds.length = vs.length) (h : OK K (ds2 ds vs ++ l) H) (hp : H p = none) : OK K ((IT.o (OL ds), some (.ref p)) :: l) (upd H p (.lst vs)) := by
  obtain ⟨F, L1, L2, e1, e2, g⟩ := h.split
  have q : DpAll K F vs ds := held_ds (l := l) hl (by rw [List.map_append, e1, e2]) g
  have g2 := g.right.fresh (o := .lst vs) hp
  refine ⟨F, _, by simp [e2], g2.oCons (v := .ref p) (P := OL ds) (fp := [p]) ⟨p, vs, rfl, rfl, upd_same, q⟩ (by simp) (fun a ha hb => ?_) fun a ha => ?_⟩
  · have e : a = p := by simpa using ha
    subst e
    obtain ⟨u, hu⟩ := (g.right.own a hb).2
    rw [hp] at hu
    cases hu
  · have e : a = p := by simpa using ha
    subst e
    exact ⟨ext_none g.ext hp, _, upd_same⟩
/-- an owned thing at the front is changed at addresses of its own -/
theorem Held.change {F : Hp} {L : List EF} {v : V} {P Q : Own} {fp : List Addr} (h : Held K F H (((IT.o P, some v), fp) :: L)) (hQ : Q.holds K F H' v fp) (k : ∀ a o, a ∉ fp → H a = some o → H' a = some o) (t : ∀ a ∈ fp, ∃ o, H' a = some o) :
    Held K F H' (((IT.o Q, some v), fp) :: L) := by
  have nd := h.nd
  unfold fpsOf at nd
  rw [List.flatMap_cons] at nd
  obtain ⟨n1, n2, n3⟩ := List.nodup_append.mp nd
  have own : ∀ a ∈ fp, F a = none := fun a ha => (h.own a (mem_fps.mpr ⟨_, List.mem_cons_self, ha⟩)).1
  refine (h.tail.grow (Ext.refl F) (fun a u q => k a u (fun z => by rw [own a z] at q; cases q) (h.ext a u q)) (fun a ha u hu => k a u (fun z => n3 a z a ha rfl) hu) fun a ha => (h.tail.own a ha).1).oCons hQ n1 (fun a ha hb => n3 a ha a hb rfl) fun a ha => ⟨own a ha, t a ha⟩
end
end Z

namespace Z
open PySem L2

def Fz (K : PySem.W.Frag) (F : Hp) (l : List En) (H : Hp) : Prop := ∃ L, L.map (·.1) = l ∧ Held K F H L
section
variable {K : PySem.W.Frag} {H H' F : Hp} {l l' : List En}
theorem OK.fz (h : OK K l H) : ∃ F, Fz K F l H := let ⟨F, L, e, g⟩ := h; ⟨F, L, e, g⟩
theorem Fz.ok (h : Fz K F l H) : OK K l H := let ⟨L, e, g⟩ := h; ⟨F, L, e, g⟩
theorem Fz.ext (h : Fz K F l H) : Ext F H := let ⟨_, _, g⟩ := h; g.ext
theorem Fz.perm (p : l.Perm l') (h : Fz K F l H) : Fz K F l' H := by
  obtain ⟨L, e, g⟩ := h
  obtain ⟨L', e', q⟩ := lift_perm p e
  exact ⟨L', e', g.perm q⟩
theorem Fz.tail {x : En} (h : Fz K F (x :: l) H) : Fz K F l H := by
  obtain ⟨L, e, g⟩ := h
  cases L with
  | nil => simp at e
  | cons y L => simp at e; exact ⟨L, e.2, g.tail⟩
theorem Fz.at {x : PyData} {v : Option V} (h : Fz K F l H) (m : (IT.d x, v) ∈ l) : ∃ u, v = some u ∧ Dp K F u x := by
  obtain ⟨L, e, g⟩ := h
  subst e
  obtain ⟨fp, hm⟩ := mem_map1 m
  obtain ⟨_, u, e1, hd⟩ := g.ent _ hm
  exact ⟨u, e1, hd⟩
theorem Fz.own {P : Own} {v : Option V} (h : Fz K F l H) (m : (IT.o P, v) ∈ l) : ∃ u fp, v = some u ∧ P.holds K F H u fp := by
  obtain ⟨L, e, g⟩ := h
  subst e
  obtain ⟨fp, hm⟩ := mem_map1 m
  obtain ⟨u, e1, hd⟩ := g.ent _ hm
  exact ⟨u, fp, e1, hd⟩
theorem Fz.add {x : PyData} {v : V} (h : Fz K F l H) (d : Dp K F v x) : Fz K F ((IT.d x, some v) :: l) H := by
  obtain ⟨L, e, g⟩ := h
  exact ⟨(((IT.d x, some v), []) :: L), by rw [List.map_cons, e], g.dCons d⟩
theorem Fz.un {v : Option V} (h : Fz K F l H) : Fz K F ((IT.un, v) :: l) H := by
  obtain ⟨L, e, g⟩ := h
  exact ⟨(((IT.un, v), []) :: L), by rw [List.map_cons, e], g.unCons⟩
theorem Fz.tup {ds : List PyData} {vs : List V} {p : Addr} (h : Fz K F l H) (q : DpAll K F vs ds) (hp : H p = none) : OK K ((IT.d (.tuple ds), some (.ref p)) :: l) (upd H p (.tup vs)) := by
  obtain ⟨L, e, g⟩ := h
  have q2 : DpAll K (upd F p (.tup vs)) vs ds := dpsUp (Ext.up (ext_none g.ext hp)) ds vs q
  exact ⟨_, _, by rw [List.map_cons, e], (g.frozen hp).dCons (v := .ref p) (.tup (.of upd_same) q2)⟩
/-- a new thing of its own, at one address -/
theorem Fz.newO {P : Own} {o : HO} {p : Addr} (h : Fz K F l H) (hp : H p = none) (hP : P.holds K F (upd H p o) (.ref p) [p]) : OK K ((IT.o P, some (.ref p)) :: l) (upd H p o) := by
  obtain ⟨L, e, g⟩ := h
  refine ⟨F, _, by rw [List.map_cons, e], (g.fresh (o := o) hp).oCons (v := .ref p) (P := P) (fp := [p]) hP (by simp) (fun a ha hb => ?_) fun a ha => ?_⟩
  · have e : a = p := by simpa using ha
    subst e
    obtain ⟨u, hu⟩ := (g.own a hb).2
    rw [hp] at hu
    cases hu
  · have e : a = p := by simpa using ha
    subst e
    exact ⟨ext_none g.ext hp, _, upd_same⟩
theorem Fz.lstO {ds : List PyData} {vs : List V} {p : Addr} (h : Fz K F l H) (q : DpAll K F vs ds) (hp : H p = none) : OK K ((IT.o (OL ds), some (.ref p)) :: l) (upd H p (.lst vs)) :=
  h.newO hp ⟨p, vs, rfl, rfl, upd_same, q⟩
/-- the list at the front is another one -/
theorem Fz.putL {ds ds' : List PyData} {v : V} (h : Fz K F ((IT.o (OL ds), some v) :: l) H) : ∃ p vs, v = .ref p ∧ H p = some (.lst vs) ∧ DpAll K F vs ds ∧
    ∀ ds' vs', DpAll K F vs' ds' → OK K ((IT.o (OL ds'), some v) :: l) (upd H p (.lst vs')) := by
  obtain ⟨L, e, g⟩ := h
  cases L with
  | nil => simp at e
  | cons y L =>
    obtain ⟨y1, fp⟩ := y
    simp at e
    obtain ⟨e1, e2⟩ := e
    subst e1
    obtain ⟨u, e3, p, vs, e4, e5, e6, e7⟩ := g.ent _ List.mem_cons_self
    have e3' : v = u := Option.some.inj e3
    subst e3'
    have e5' : fp = [p] := e5
    subst e5'
    refine ⟨p, vs, e4, e6, e7, fun ds' vs' q => ⟨F, _, ?_, g.change (H' := upd H p (.lst vs')) (Q := OL ds') ⟨p, vs', e4, rfl, upd_same, q⟩ (fun a o ha ho => ?_) fun a ha => ?_⟩⟩
    · rw [List.map_cons, e2]
    · rw [upd_ne (by simpa using ha)]; exact ho
    · have e : a = p := by simpa using ha
      subst e
      exact ⟨_, upd_same⟩
/-- the list at the front is kept for good -/
theorem Fz.freeze {ds : List PyData} {v : V} (h : Fz K F ((IT.o (OL ds), some v) :: l) H) : OK K ((IT.d (.list ds), some v) :: l) H := by
  obtain ⟨L, e, g⟩ := h
  cases L with
  | nil => simp at e
  | cons y L =>
    obtain ⟨y1, fp⟩ := y
    simp at e
    obtain ⟨e1, e2⟩ := e
    subst e1
    obtain ⟨u, e3, p, vs, e4, e5, e6, e7⟩ := g.ent _ List.mem_cons_self
    have e3' : v = u := Option.some.inj e3
    subst e3'
    have e5' : fp = [p] := e5
    subst e5'
    have nF : F p = none := (g.own p (mem_fps.mpr ⟨_, List.mem_cons_self, by simp⟩)).1
    have nd := g.nd
    unfold fpsOf at nd
    rw [List.flatMap_cons] at nd
    obtain ⟨_, _, n3⟩ := List.nodup_append.mp nd
    have g2 : Held K (upd F p (.lst vs)) H L := g.tail.grow (Ext.up nF) (fun a o q => by
      by_cases ea : a = p
      · subst ea; rw [upd_same] at q; cases q; exact e6
      · rw [upd_ne ea] at q; exact g.ext a o q) (fun _ _ _ q => q) fun a ha => by
        rw [upd_ne (fun z => n3 p (by simp) a ha z.symm)]
        exact (g.tail.own a ha).1
    refine ⟨upd F p (.lst vs), (((IT.d (.list ds), some v), []) :: L), by rw [List.map_cons, e2], g2.dCons ?_⟩
    subst e4
    exact .lst (.of upd_same) (dpsUp (Ext.up nF) _ _ e7)
end

inductive SD where
  | un | d (x : PyData) | r (j : Nat)
def itOf : SD → IT
  | .d x => .d x
  | _ => .un
structure S where
  e : List SD
  R : List Own
def ES (e : List SD) (σ : L2.St) : List En := List.zipWith (fun s v => (itOf s, v)) e σ
def RS (R : List Own) (ρ : List V) : List En := List.zipWith (fun P v => (IT.o P, some v)) R ρ
structure Sat (K : PySem.W.Frag) (s : S) (σ : L2.St) (ρ : List V) (T : List En) (H : Hp) : Prop where
  le : s.e.length = σ.length
  lr : s.R.length = ρ.length
  al : ∀ (i j : Nat), s.e[i]? = some (SD.r j) → ∃ v : V, σ[i]? = some (some v) ∧ ρ[j]? = some v
  ok : OK K (T ++ (ES s.e σ ++ RS s.R ρ)) H
/-- a value that is a reference is the one of the store -/
def VR (r : SD) (ρ : List V) (v : V) : Prop := match r with
  | .r j => ρ[j]? = some v
  | _ => True
theorem VR.mono {r : SD} {ρ ρ' : List V} {v : V} (h : VR r ρ v) (p : ρ <+: ρ') : VR r ρ' v := by
  cases r with
  | r j =>
    obtain ⟨m, rfl⟩ := p
    have h' : ρ[j]? = some v := h
    show (ρ ++ m)[j]? = some v
    rw [List.getElem?_append_left (List.getElem?_eq_some_iff.mp h').1]
    exact h'
  | _ => trivial

theorem es_get {e : List SD} {σ : L2.St} {i : Nat} {a : SD} {v : Option V} (h1 : e[i]? = some a) (h2 : σ[i]? = some v) : (ES e σ)[i]? = some (itOf a, v) := by
  unfold ES
  rw [List.getElem?_zipWith, h1, h2]
theorem rs_get {R : List Own} {ρ : List V} {i : Nat} {P : Own} {v : V} (h1 : R[i]? = some P) (h2 : ρ[i]? = some v) : (RS R ρ)[i]? = some (IT.o P, some v) := by
  unfold RS
  rw [List.getElem?_zipWith, h1, h2]
theorem get_of_len {α β : Type} {l : List α} {m : List β} (h : l.length = m.length) {i : Nat} {a : α} (e : l[i]? = some a) : ∃ b, m[i]? = some b := by
  obtain ⟨hi, _⟩ := List.getElem?_eq_some_iff.mp e
  exact ⟨m[i]'(by omega), List.getElem?_eq_getElem (by omega)⟩
section
variable {K : PySem.W.Frag} {s : S} {σ : L2.St} {ρ : List V} {T : List En} {H : Hp}
theorem Sat.tperm {T' : List En} (p : T.Perm T') (h : Sat K s σ ρ T H) : Sat K s σ ρ T' H := ⟨h.le, h.lr, h.al, h.ok.perm (p.append_right _)⟩
theorem Sat.tdrops {T1 : List En} (h : Sat K s σ ρ (T1 ++ T) H) : Sat K s σ ρ T H := ⟨h.le, h.lr, h.al, OK.right (k := T1) (by rw [← List.append_assoc]; exact h.ok)⟩
theorem Sat.slot {i : Nat} {x : PyData} (h : Sat K s σ ρ T H) (e : s.e[i]? = some (SD.d x)) : ∃ v : V, σ[i]? = some (some v) ∧ Sat K s σ ρ ((IT.d x, some v) :: T) H := by
  obtain ⟨ov, h2⟩ := get_of_len h.le e
  have m : (IT.d x, ov) ∈ T ++ (ES s.e σ ++ RS s.R ρ) := List.mem_append_right _ (List.mem_append_left _ (List.mem_of_getElem? (es_get e h2)))
  obtain ⟨u, e1, _, ok⟩ := h.ok.dup m
  subst e1
  exact ⟨u, h2, h.le, h.lr, h.al, ok⟩
/-- a store to a slot, of the value on top -/
theorem Sat.put {i : Nat} {r : SD} {v : V} (hi : i < s.e.length) (vr : VR r ρ v) (h : Sat K s σ ρ ((itOf r, some v) :: T) H) : Sat K ⟨s.e.set i r, s.R⟩ (σ.set i (some v)) ρ T H := by
  have hσ : i < σ.length := by rw [← h.le]; exact hi
  refine ⟨by simp [h.le], h.lr, fun k j e => ?_, ?_⟩
  · by_cases hk : k = i
    · subst hk
      simp only [List.getElem?_set_self hi, Option.some.injEq] at e
      subst e
      exact ⟨v, by rw [List.getElem?_set_self hσ], vr⟩
    · simp only [List.getElem?_set_ne (Ne.symm hk)] at e
      obtain ⟨w, e1, e2⟩ := h.al k j e
      exact ⟨w, by rw [List.getElem?_set_ne (Ne.symm hk)]; exact e1, e2⟩
  · have q : ES (s.e.set i r) (σ.set i (some v)) = (ES s.e σ).set i (itOf r, some v) := by
      unfold ES
      apply List.ext_getElem?
      intro k
      rw [List.getElem?_zipWith]
      by_cases hk : k = i
      · subst hk
        rw [List.getElem?_set_self hi, List.getElem?_set_self hσ, List.getElem?_set_self (by rw [List.length_zipWith]; omega)]
      · rw [List.getElem?_set_ne (Ne.symm hk), List.getElem?_set_ne (Ne.symm hk), List.getElem?_set_ne (Ne.symm hk), List.getElem?_zipWith]
    have hz : i < (ES s.e σ).length := by unfold ES; rw [List.length_zipWith]; omega
    have k : OK K ((T ++ (ES s.e σ ++ RS s.R ρ)).set (T.length + i) (itOf r, some v)) H := OK.set (T.length + i) h.ok
    rw [List.set_append_right _ _ (Nat.le_add_right _ _), Nat.add_sub_cancel_left, List.set_append_left _ _ hz, ← q] at k
    exact k
/-- a new object for the store, from the top -/
theorem Sat.push {P : Own} {v : V} (h : OK K ((IT.o P, some v) :: (T ++ (ES s.e σ ++ RS s.R ρ))) H) (le : s.e.length = σ.length) (lr : s.R.length = ρ.length) (al : ∀ (i j : Nat), s.e[i]? = some (SD.r j) → ∃ v : V, σ[i]? = some (some v) ∧ ρ[j]? = some v) :
    Sat K ⟨s.e, s.R ++ [P]⟩ σ (ρ ++ [v]) T H := by
  refine ⟨le, by simp [lr], fun i j e => ?_, ?_⟩
  · obtain ⟨w, e1, e2⟩ := al i j e
    exact ⟨w, e1, by rw [List.getElem?_append_left (List.getElem?_eq_some_iff.mp e2).1]; exact e2⟩
  · have q : RS (s.R ++ [P]) (ρ ++ [v]) = RS s.R ρ ++ [(IT.o P, some v)] := by
      unfold RS
      rw [List.zipWith_append lr]
      rfl
    rw [show (⟨s.e, s.R ++ [P]⟩ : S).R = s.R ++ [P] from rfl, q]
    refine h.perm ?_
    show ((IT.o P, some v) :: (T ++ (ES s.e σ ++ RS s.R ρ))).Perm (T ++ (ES s.e σ ++ (RS s.R ρ ++ [(IT.o P, some v)])))
    rw [← List.append_assoc, ← List.append_assoc, ← List.append_assoc]
    exact (List.perm_append_singleton _ _).symm
/-- the j-th object of the store to the front -/
theorem rs_set {R : List Own} {ρ : List V} (lr : R.length = ρ.length) {j : Nat} {P : Own} {v : V} (e : ρ[j]? = some v) : RS (R.set j P) ρ = (RS R ρ).set j (IT.o P, some v) := by
  obtain ⟨hj, ej⟩ := List.getElem?_eq_some_iff.mp e
  unfold RS
  apply List.ext_getElem?
  intro k
  rw [List.getElem?_zipWith]
  by_cases hk : k = j
  · subst hk
    rw [List.getElem?_set_self (by omega), e, List.getElem?_set_self (by simp [List.length_zipWith]; omega)]
  · rw [List.getElem?_set_ne (Ne.symm hk), List.getElem?_set_ne (Ne.symm hk), List.getElem?_zipWith]
theorem Sat.obj {j : Nat} {P : Own} (h : Sat K s σ ρ T H) (e : s.R[j]? = some P) : ∃ v, ρ[j]? = some v ∧
    OK K ((IT.o P, some v) :: (T ++ (ES s.e σ ++ (RS s.R ρ).set j (IT.un, some v)))) H ∧
    ∀ (H' : Hp) (Q : Own), OK K ((IT.o Q, some v) :: (T ++ (ES s.e σ ++ (RS s.R ρ).set j (IT.un, some v)))) H' → Sat K ⟨s.e, s.R.set j Q⟩ σ ρ T H' := by
  obtain ⟨v, h2⟩ := get_of_len h.lr e
  have g := rs_get e h2
  have hz : j < (RS s.R ρ).length := (List.getElem?_eq_some_iff.mp g).1
  have n1 : ∀ x : En, (T ++ (ES s.e σ ++ RS s.R ρ)).set (T.length + ((ES s.e σ).length + j)) x = T ++ (ES s.e σ ++ (RS s.R ρ).set j x) := fun x => by
    rw [List.set_append_right _ _ (Nat.le_add_right _ _), Nat.add_sub_cancel_left, List.set_append_right _ _ (Nat.le_add_right _ _), Nat.add_sub_cancel_left]
  refine ⟨v, h2, ?_, fun H' Q ok => ?_⟩
  · rw [← n1]
    refine h.ok.out ?_
    rw [List.getElem?_append_right (Nat.le_add_right _ _), Nat.add_sub_cancel_left, List.getElem?_append_right (Nat.le_add_right _ _), Nat.add_sub_cancel_left]
    exact g
  · refine ⟨h.le, by simpa using h.lr, h.al, ?_⟩
    have k := ok.set (T.length + ((ES s.e σ).length + j))
    rw [← n1, List.set_set, n1, ← rs_set h.lr h2] at k
    exact k
end
end Z

namespace Z
open PySem L2

def tE (K : PySem.W.Frag) (s : S) (r : SD) (s' : S) : TE := fun σ H Q => ∃ T ρ, Sat K s σ ρ T H ∧ ∀ v ρ' H', ρ <+: ρ' → VR r ρ' v → Sat K s' σ ρ' ((itOf r, some v) :: T) H' → Q v H'
def ZE (X : Cx) (ex : Expr) (s : S) (r : SD) (s' : S) : Prop := PE X ex (tE X.K s r s')
def tT (K : PySem.W.Frag) (s : S) (R : Bool → S → Prop) : TT := fun σ H Q => ∃ T ρ, Sat K s σ ρ T H ∧ ∀ b s' ρ' H', R b s' → ρ <+: ρ' → Sat K s' σ ρ' T H' → Q b H'
def ZT (X : Cx) (ex : Expr) (s : S) (R : Bool → S → Prop) : Prop := PT X ex (tT X.K s R)
def ZW (X : Cx) (ex : Expr) (s : S) (R : Bool → S → Prop) : Prop := PW X ex (tT X.K s R)
/-- just this answer -/
def Is (b : Bool) (s : S) : Bool → S → Prop := fun c t => c = b ∧ t = s
def its (rs : List SD) (vs : List V) : List En := List.zipWith (fun r v => (itOf r, some v)) rs vs
def VRs (rs : List SD) (ρ : List V) (vs : List V) : Prop := rs.length = vs.length ∧ ∀ (i : Nat) (r : SD) (v : V), rs[i]? = some r → vs[i]? = some v → VR r ρ v
def tA (K : PySem.W.Frag) (s : S) (rs : List SD) (s' : S) : TA := fun σ H Q => ∃ T ρ, Sat K s σ ρ T H ∧ ∀ vs ρ' H', ρ <+: ρ' → VRs rs ρ' vs → Sat K s' σ ρ' (its rs vs ++ T) H' → Q vs H'
structure Po where
  b : Nat
  nx : S → Prop
  rt : SD → S → Prop
  bk : S → Prop := fun _ => False
  ct : S → Prop := fun _ => False
structure Meets (K : PySem.W.Frag) (P : Po) (ρ : List V) (T : List En) (D : Ends) : Prop where
  nx : ∀ s' σ' ρ' H', P.nx s' → ρ <+: ρ' → Sat K s' σ' ρ' T H' → D.nx σ' H'
  rt : ∀ r s' σ' ρ' H' v, P.rt r s' → ρ <+: ρ' → VR r ρ' v → Sat K s' σ' ρ' ((itOf r, some v) :: T) H' → D.rt v H'
  bk : ∀ s' σ' ρ' H', P.bk s' → ρ <+: ρ' → Sat K s' σ' ρ' T H' → D.bk σ' H'
  ct : ∀ s' σ' ρ' H', P.ct s' → ρ <+: ρ' → Sat K s' σ' ρ' T H' → D.ct σ' H'
def tS (K : PySem.W.Frag) (M : S → Prop) (P : Po) : TS := fun D σ H => ∃ s T ρ, M s ∧ P.b ≤ ρ.length ∧ Sat K s σ ρ T H ∧ Meets K P (ρ.take P.b) T D
def ZSs (X : Cx) (sts : List Stmt) (s : S) (P : Po) : Prop := PSs X sts (tS X.K (fun t => t = s) P)

section
variable {X : Cx} {e a b c : Expr} {es : List Expr} {s s' s1 s2 s3 : S} {r r1 r2 : SD} {rs : List SD} {pos : Pos}
theorem PE.imp {t t' : TE} (h : PE X e t) (i : ∀ σ H Q, t' σ H Q → t σ H Q) : PE X e t' := ⟨fun pins s σ H Q I q => h.run pins s σ H Q I (i σ H Q q)⟩
theorem PT.imp {t t' : TT} (h : PT X e t) (i : ∀ σ H Q, t' σ H Q → t σ H Q) : PT X e t' := ⟨fun pins s σ H Q I q => h.run pins s σ H Q I (i σ H Q q)⟩
theorem PW.imp {t t' : TT} (h : PW X e t) (i : ∀ σ H Q, t' σ H Q → t σ H Q) : PW X e t' := ⟨fun w pins s σ H Q I q => h.run w pins s σ H Q I (i σ H Q q)⟩
theorem PA.imp {t t' : TA} (h : PA X es t) (i : ∀ σ H Q, t' σ H Q → t σ H Q) : PA X es t' := ⟨fun pos pins s σ H Q I q => h.run pos pins s σ H Q I (i σ H Q q)⟩
theorem PS.imp {st : Stmt} {t t' : TS} (h : PS X st t) (i : ∀ D σ H, t' D σ H → t D σ H) : PS X st t' := ⟨fun pins s σ H D I q => h.run pins s σ H D I (i D σ H q)⟩
theorem PSs.imp {st : List Stmt} {t t' : TS} (h : PSs X st t) (i : ∀ D σ H, t' D σ H → t D σ H) : PSs X st t' := ⟨fun pins s σ H D I q => h.run pins s σ H D I (i D σ H q)⟩
theorem pre_refl (ρ : List V) : ρ <+: ρ := List.prefix_rfl
theorem ZE.to (h : ZE X e s r s') (e1 : r = r1) (e2 : s' = s1) : ZE X e s r1 s1 := by subst e1 e2; exact h
theorem ZT.imp {R R' : Bool → S → Prop} (h : ZT X e s R) (i : ∀ b t, R b t → R' b t) : ZT X e s R' :=
  PT.imp h fun σ H Q ⟨T, ρ, g, q⟩ => ⟨T, ρ, g, fun b t ρ' H' hr p g' => q b t ρ' H' (i b t hr) p g'⟩
theorem ZW.imp {R R' : Bool → S → Prop} (h : ZW X e s R) (i : ∀ b t, R b t → R' b t) : ZW X e s R' :=
  PW.imp h fun σ H Q ⟨T, ρ, g, q⟩ => ⟨T, ρ, g, fun b t ρ' H' hr p g' => q b t ρ' H' (i b t hr) p g'⟩
theorem ZW.t {R : Bool → S → Prop} (h : ZW X e s R) : ZT X e s R := PW.pt h

section
variable {K : PySem.W.Frag} {σ : L2.St} {ρ : List V} {T : List En} {H : Hp} {v : V} {x : PyData}
theorem Sat.of (g : Sat K s σ ρ T H) {T' : List En} {H' : Hp} (h : OK K (T' ++ (ES s.e σ ++ RS s.R ρ)) H') : Sat K s σ ρ T' H' := ⟨g.le, g.lr, g.al, h⟩
end

/-- two values in, one out -/
def Bi (K : PySem.W.Frag) (q : R2) (s : S) (a b z : SD) (s' : S) : Prop := ∀ u w T σ ρ H Q, Sat K s σ ρ ((itOf b, some w) :: (itOf a, some u) :: T) H → VR a ρ u → VR b ρ w →
  (∀ v ρ' H', ρ <+: ρ' → VR z ρ' v → Sat K s' σ ρ' ((itOf z, some v) :: T) H' → Q v H') → q u w H Q
variable {z : SD}
theorem bi_run {q : R2} {ra rb : SD} (hq : Bi X.K q s2 ra rb z s3) : ∀ σ H Q, tE X.K s z s3 σ H Q → tOp q (tE X.K s ra s1) (tE X.K s1 rb s2) σ H Q := fun σ H Q ⟨T, ρ, g, k⟩ =>
  ⟨T, ρ, g, fun u ρ1 H1 p1 vr1 g1 => ⟨_, ρ1, g1, fun w ρ2 H2 p2 vr2 g2 => hq u w T σ ρ2 H2 Q g2 (vr1.mono p2) vr2 fun v ρ3 H3 p3 vr3 g3 => k v ρ3 H3 ((p1.trans p2).trans p3) vr3 g3⟩⟩
variable {i j : Int}
variable {x y : PyData} {ra rb : SD}
end
end Z

namespace Z
open PySem L2
section
variable {X : Cx} {e a b c : Expr} {es : List Expr} {s s' s1 s2 s3 : S} {r r1 r2 : SD} {rs : List SD} {pos : Pos} {R : Bool → S → Prop} {k : Bool}

/-- a value's truth -/
def tru : PyData → Bool
  | .none => false
  | .bool b => b
  | .int i => i != 0
  | .str y => (y.length : Int) != 0
  | .list xs => !xs.isEmpty
  | .tuple xs => !xs.isEmpty
  | .dict _ => false
theorem empty_len {α β : Type} {l : List α} {m : List β} (h : l.length = m.length) : l.isEmpty = m.isEmpty := by
  cases l <;> cases m <;> simp at h ⊢
theorem pe_noway {X : Cx} {e : Expr} : PE X e (fun _ _ _ => False) := ⟨fun _ _ _ _ _ _ h => h.elim⟩
/-- how a call of a global name with these arguments is read -/
def Cl (X : Cx) (x : Str) (e : Expr) (es : List Expr) (pos : Pos) : Prop := Gl X x ∧ starEach (e :: es) X.env = (false, eval e X.env) :: starEach es X.env ∧ (backTo pos (starEach es X.env)).any (·.1) = false
theorem vrs1 {ρ : List V} {us : List V} (h : VRs [r] ρ us) : ∃ u, us = [u] ∧ VR r ρ u := by
  obtain ⟨h1, h2⟩ := h
  match us, h1 with
  | [u], _ => exact ⟨u, rfl, h2 0 r u rfl rfl⟩
theorem vrs2 {ρ : List V} {us : List V} (h : VRs [r, r1] ρ us) : ∃ u w, us = [u, w] ∧ VR r ρ u ∧ VR r1 ρ w := by
  obtain ⟨h1, h2⟩ := h
  match us, h1 with
  | [u, w], _ => exact ⟨u, w, rfl, h2 0 r u rfl rfl, h2 1 r1 w rfl rfl⟩
variable {f p : Pos} {n : Nat} {i j : Int} {x y z : PyData} {ds : List PyData}
theorem PO.imp {X : Cx} {e : Option Expr} {t t' : TO} (h : PO X e t) (i : ∀ σ H Q, t' σ H Q → t σ H Q) : PO X e t' := ⟨fun pins s σ H Q I q => h.run pins s σ H Q I (i σ H Q q)⟩
def cut (xs : List PyData) (lo hi : Option Int) : List PyData := (xs.drop (HT.sIx xs.length 0 lo)).take (HT.sIx xs.length xs.length hi - HT.sIx xs.length 0 lo)
theorem dps_cut {K : PySem.W.Frag} {F : Hp} {vs : List V} {lo hi : Option Int} (h : DpAll K F vs ds) : DpAll K F (cutV vs lo hi) (cut ds lo hi) := by
  unfold cutV cut
  rw [dpsLen h]
  exact dpsTake _ (dpsDrop _ h)
variable {lo hi : Option Expr} {l u : Option Int} {p2 : Pos}
end
end Z

namespace Z
open PySem L2

def wkE : List SD → List SD → Prop
  | [], [] => True
  | a :: l, b :: m => (b = a ∨ b = .un) ∧ wkE l m
  | _, _ => False
/-- no reference at n or beyond -/
def low (n : Nat) : List SD → Prop
  | [] => True
  | .r j :: l => j < n ∧ low n l
  | _ :: l => low n l
theorem wkE_len : ∀ {l m : List SD}, wkE l m → m.length = l.length
  | [], [], _ => rfl
  | a :: l, b :: m, h => by simp [wkE_len h.2]
  | [], _ :: _, h => h.elim
  | _ :: _, [], h => h.elim
theorem wkE_get : ∀ {l m : List SD}, wkE l m → ∀ {i : Nat} {b : SD}, m[i]? = some b → ∃ a, l[i]? = some a ∧ (b = a ∨ b = .un)
  | [], [], _, i, b, e => by simp at e
  | a :: l, b :: m, h, 0, c, e => by simp at e; subst e; exact ⟨a, rfl, h.1⟩
  | a :: l, b :: m, h, i + 1, c, e => by
    rw [List.getElem?_cons_succ] at e
    obtain ⟨x, h1, h2⟩ := wkE_get h.2 e
    exact ⟨x, by rw [List.getElem?_cons_succ]; exact h1, h2⟩
  | [], _ :: _, h, _, _, _ => h.elim
  | _ :: _, [], h, _, _, _ => h.elim
theorem low_get {n : Nat} : ∀ {l : List SD}, low n l → ∀ {i j : Nat}, l[i]? = some (SD.r j) → j < n
  | [], _, i, j, e => by simp at e
  | .r k :: l, h, 0, j, e => by simp at e; subst e; exact h.1
  | .un :: l, h, 0, j, e => by simp at e
  | .d x :: l, h, 0, j, e => by simp at e
  | .r k :: l, h, i + 1, j, e => low_get (l := l) h.2 (by simpa using e)
  | .un :: l, h, i + 1, j, e => low_get (l := l) h (by simpa using e)
  | .d x :: l, h, i + 1, j, e => low_get (l := l) h (by simpa using e)
section
variable {K : PySem.W.Frag} {s : S} {σ : L2.St} {ρ : List V} {T : List En} {H : Hp}
theorem ok_es : ∀ {e e' : List SD} {σ : L2.St} {l : List En}, wkE e e' → OK K (ES e σ ++ l) H → OK K (ES e' σ ++ l) H
  | [], [], _, _, _, h => h
  | a :: e, b :: e', [], l, _, h => h
  | a :: e, b :: e', v :: σ, l, w, h => by
    have h1 : OK K (ES e σ ++ ((itOf a, v) :: l)) H := h.perm List.perm_middle.symm
    have h2 : OK K (ES e' σ ++ ((itOf a, v) :: l)) H := ok_es w.2 h1
    have h3 : OK K ((itOf b, v) :: (ES e' σ ++ l)) H := by
      have h4 : OK K ((itOf a, v) :: (ES e' σ ++ l)) H := h2.perm List.perm_middle
      rcases w.1 with z | z
      · rw [z]; exact h4
      · rw [z]; exact h4.tail.un
    exact h3
  | [], _ :: _, _, _, w, _ => w.elim
  | _ :: _, [], _, _, w, _ => w.elim
theorem Sat.trim {e' : List SD} {n : Nat} (g : Sat K s σ ρ T H) (w : wkE s.e e') (lw : low n e') : Sat K ⟨e', s.R.take n⟩ σ (ρ.take n) T H := by
  refine ⟨(wkE_len w).trans g.le, by simp [g.lr], fun i j e => ?_, ?_⟩
  · obtain ⟨a, h1, h2⟩ := wkE_get w e
    rcases h2 with z | z
    · subst z
      obtain ⟨v, e1, e2⟩ := g.al i j h1
      exact ⟨v, e1, by rw [List.getElem?_take_of_lt (low_get lw e)]; exact e2⟩
    · cases z
  · have h1 : OK K (ES e' σ ++ (RS s.R ρ ++ T)) H := by
      refine ok_es w (g.ok.perm ?_)
      exact (List.perm_append_comm).trans (by rw [List.append_assoc])
    have q : RS s.R ρ = RS (s.R.take n) (ρ.take n) ++ RS (s.R.drop n) (ρ.drop n) := by
      unfold RS
      rw [← List.zipWith_append (by simp [g.lr]), List.take_append_drop, List.take_append_drop]
    rw [q] at h1
    have h2 : OK K (RS (s.R.drop n) (ρ.drop n) ++ (T ++ (ES e' σ ++ RS (s.R.take n) (ρ.take n)))) H := by
      refine h1.perm ?_
      have p1 : (ES e' σ ++ (RS (s.R.take n) (ρ.take n) ++ RS (s.R.drop n) (ρ.drop n) ++ T)).Perm ((ES e' σ ++ RS (s.R.take n) (ρ.take n)) ++ (RS (s.R.drop n) (ρ.drop n) ++ T)) := by
        rw [List.append_assoc, List.append_assoc]
      refine p1.trans ?_
      refine (List.perm_append_comm).trans ?_
      rw [List.append_assoc]
    exact OK.right h2
end
theorem ZE.trim {X : Cx} {e : Expr} {s s1 : S} {x : PyData} {e' : List SD} {n : Nat} (h : ZE X e s (.d x) s1) (w : wkE s1.e e') (lw : low n e') (hn : s.R.length ≤ n) : ZE X e s (.d x) ⟨e', s1.R.take n⟩ :=
  PE.imp h fun σ H Q ⟨T, ρ, g, k⟩ => ⟨T, ρ, g, fun v ρ' H' p vr g' => k v (ρ'.take n) H' (by
    obtain ⟨m, rfl⟩ := p
    rw [List.take_append, List.take_of_length_le (by rw [← g.lr]; exact hn)]
    exact List.prefix_append _ _) trivial (g'.trim w lw)⟩
def gone : Own where
  holds := fun _ _ _ _ fp => fp = []
  stay := fun h _ _ => h
/-- a list that has just come, kept for good -/
theorem ZE.frz {X : Cx} {e : Expr} {s s1 : S} {j : Nat} {ds : List PyData} (h : ZE X e s (.r j) s1) (hj : s1.R[j]? = some (OL ds)) : ZE X e s (.d (.list ds)) ⟨s1.e, s1.R.set j gone⟩ :=
  PE.imp h fun σ H Q ⟨T, ρ, g, k⟩ => ⟨T, ρ, g, fun v ρ' H' p vr g' => k v ρ' H' p trivial (by
    obtain ⟨w, e2, ok, back⟩ := g'.obj hj
    have ev : w = v := Option.some.inj (e2.symm.trans vr)
    subst ev
    obtain ⟨F, f⟩ := ok.fz
    have f2 : OK X.K ((IT.d (.list ds), some w) :: (T ++ (ES s1.e σ ++ (RS s1.R ρ').set j (IT.un, some w)))) H' := (OK.perm (List.Perm.swap _ _ _) f.freeze).tail
    have f3 : OK X.K ((IT.o gone, some w) :: (((IT.d (.list ds), some w) :: T) ++ (ES s1.e σ ++ (RS s1.R ρ').set j (IT.un, some w)))) H' := by
      obtain ⟨F2, L, e1, gg⟩ := f2
      have c := gg.oCons (v := w) (P := gone) (fp := []) rfl List.nodup_nil (fun a ha => by cases ha) (fun a ha => by cases ha)
      exact ⟨F2, (((IT.o gone, some w), []) :: L), by rw [List.map_cons, e1]; rfl, c⟩
    exact back2 g' hj e2 f3)⟩
where
  back2 {K : PySem.W.Frag} {s : S} {σ : L2.St} {ρ : List V} {T T2 : List En} {H H' : Hp} {j : Nat} {P Q : Own} {w : V} (g : Sat K s σ ρ T H) (hj : s.R[j]? = some P) (e2 : ρ[j]? = some w)
      (ok : OK K ((IT.o Q, some w) :: (T2 ++ (ES s.e σ ++ (RS s.R ρ).set j (IT.un, some w)))) H') : Sat K ⟨s.e, s.R.set j Q⟩ σ ρ T2 H' := by
    have hz : j < (RS s.R ρ).length := (List.getElem?_eq_some_iff.mp (rs_get hj e2)).1
    refine ⟨g.le, by simpa using g.lr, g.al, ?_⟩
    have k := ok.set (T2.length + ((ES s.e σ).length + j))
    rw [List.set_append_right _ _ (Nat.le_add_right _ _), Nat.add_sub_cancel_left, List.set_append_right _ _ (Nat.le_add_right _ _), Nat.add_sub_cancel_left, List.set_set, ← rs_set g.lr e2] at k
    exact k

section
variable {X : Cx} {e a b c : Expr} {es : List Expr} {st : Stmt} {rest body orelse : List Stmt} {s s' s1 s2 s3 : S} {r r1 r2 : SD} {rs : List SD} {pos : Pos} {R : Bool → S → Prop} {k : Bool} {P : Po} {M : S → Prop}
theorem Meets.mono {K : PySem.W.Frag} {ρ ρ' : List V} {T : List En} {D : Ends} (h : Meets K P ρ T D) (p : ρ <+: ρ') : Meets K P ρ' T D :=
  ⟨fun s' σ' r' H' a q g => h.nx s' σ' r' H' a (p.trans q) g, fun x s' σ' r' H' v a q vr g => h.rt x s' σ' r' H' v a (p.trans q) vr g, fun s' σ' r' H' a q g => h.bk s' σ' r' H' a (p.trans q) g, fun s' σ' r' H' a q g => h.ct s' σ' r' H' a (p.trans q) g⟩
/-- a list of its own grows: xs.append(e) -/
theorem Sat.putL {K : PySem.W.Frag} {σ : L2.St} {ρ : List V} {T : List En} {H : Hp} {j : Nat} {ds : List PyData} (g : Sat K s σ ρ T H) (hj : s.R[j]? = some (OL ds)) :
    ∃ p vs F, ρ[j]? = some (.ref p) ∧ H p = some (.lst vs) ∧ DpAll K F vs ds ∧ (∀ {x v}, (IT.d x, some v) ∈ T → Dp K F v x) ∧ ∀ ds' vs', DpAll K F vs' ds' → Sat K ⟨s.e, s.R.set j (OL ds')⟩ σ ρ T (upd H p (.lst vs')) := by
  obtain ⟨v, e2, ok, back⟩ := g.obj hj
  obtain ⟨F, f⟩ := ok.fz
  obtain ⟨p, vs, e3, h1, h2, h3⟩ := f.putL (ds' := ds)
  subst e3
  refine ⟨p, vs, F, e2, h1, h2, fun {x v} m => ?_, fun ds' vs' q => back _ _ (h3 ds' vs' q)⟩
  obtain ⟨u, z, d⟩ := f.at (x := x) (v := some v) (List.mem_cons_of_mem _ (List.mem_append_left _ m))
  cases z
  exact d
end
end Z

namespace Z
open PySem L2

def Wk (K : PySem.W.Frag) (J : It) (ds : List PyData) (T0 : List En) : Prop := ∀ l H, OK K (T0 ++ l) H →
  (∀ i x, ds[i]? = some x → J.go i H ∧ ∀ v H', J.yld i H v H' → OK K ((IT.d x, some v) :: (T0 ++ l)) H') ∧ J.stop ds.length H
def tI (K : PySem.W.Frag) (s : S) (ds : List PyData) (s1 : S) : TI := fun σ H R => ∃ T ρ, Sat K s σ ρ T H ∧ ∀ J T0 ρ' H', ρ <+: ρ' → Sat K s1 σ ρ' (T0 ++ T) H' → Wk K J ds T0 → R J H'
def ZI (X : Cx) (tg it : Expr) (s : S) (ds : List PyData) (s1 : S) : Prop := PI X tg it (tI X.K s ds s1)
section
variable {X : Cx} {tg e a b : Expr} {es : List Expr} {s s' s1 s2 : S} {ds : List PyData} {pos p : Pos} {i j : Int}
theorem PI.imp {t t' : TI} (h : PI X tg e t) (k : ∀ σ H Q, t' σ H Q → t σ H Q) : PI X tg e t' := ⟨fun pins s σ H Q I q => h.run pins s σ H Q I (k σ H Q q)⟩
def rng (lo : Int) (n : Nat) : List PyData := (List.range n).map fun k => .int (lo + (k : Nat))
theorem rng_get {lo : Int} {n k : Nat} {x : PyData} (h : (rng lo n)[k]? = some x) : k < n ∧ x = .int (lo + (k : Nat)) := by
  unfold rng at h
  rw [List.getElem?_map] at h
  cases q : (List.range n)[k]? with
  | none => rw [q] at h; cases h
  | some m =>
    rw [q] at h
    have hk : k < n := by
      have := (List.getElem?_eq_some_iff.mp q).1
      simpa using this
    rw [List.getElem?_range hk] at q
    cases q
    exact ⟨hk, (Option.some.inj h).symm⟩
theorem rng_len {lo : Int} {n : Nat} : (rng lo n).length = n := by unfold rng; simp
theorem wk_rng {K : PySem.W.Frag} {lo : Int} {n : Nat} : Wk K (Itr lo n) (rng lo n) [] := fun l H ok => by
  refine ⟨fun k x hx => ?_, Nat.le_of_eq rng_len.symm⟩
  obtain ⟨h1, h2⟩ := rng_get hx
  subst h2
  refine ⟨h1, fun v H' ⟨e1, e2⟩ => ?_⟩
  subst e1 e2
  exact OK.flat (show flat (.int _) (.int _) from rfl) ok
/-- but for the slots at vs -/
def offv (vs : List Nat) (σ σ' : L2.St) : Prop := σ'.length = σ.length ∧ ∀ k, k ∉ vs → σ'[k]? = σ[k]?
def tG (K : PySem.W.Frag) (vs : List Nat) (x : PyData) (s s' : S) : TG := fun v σ H Q => ∃ T ρ, Sat K s σ ρ ((IT.d x, some v) :: T) H ∧ ∀ σ', offv vs σ σ' → Sat K s' σ' ρ T H → Q σ' H
def ZG (X : Cx) (tg : Expr) (vs : List Nat) (x : PyData) (s s' : S) : Prop := PG X tg (tG X.K vs x s s')
theorem PG.imp {t t' : TG} (h : PG X tg t) (k : ∀ v σ H Q, t' v σ H Q → t v σ H Q) : PG X tg t' := ⟨fun pins s σ H v u Q I r q => h.run pins s σ H v u Q I r (k v σ H Q q)⟩
theorem PGs.imp {tgs : List Expr} {t t' : TGs} (h : PGs X tgs t) (k : ∀ v σ H Q, t' v σ H Q → t v σ H Q) : PGs X tgs t' := ⟨fun pins s σ H v u Q I r q => h.run pins s σ H v u Q I r (k v σ H Q q)⟩
theorem offv_set {vs : List Nat} {σ : L2.St} {k : Nat} {v : Option V} (h : k ∈ vs) : offv vs σ (σ.set k v) := ⟨by simp, fun m hm => by
  rw [List.getElem?_set_ne]
  rintro rfl
  exact hm h⟩
theorem offv.trans {vs : List Nat} {σ σ' σ2 : L2.St} (h : offv vs σ σ') (h2 : offv vs σ' σ2) : offv vs σ σ2 := ⟨h2.1.trans h.1, fun k hk => (h2.2 k hk).trans (h.2 k hk)⟩
variable {rest body : List Stmt} {P : Po} {M : S → Prop}
end
end Z

namespace Z
open PySem L2

def wipeE (e : List SD) : List Nat → List SD
  | [] => e
  | v :: vs => (wipeE e vs).set v .un
theorem wipeE_len (e : List SD) : ∀ vs : List Nat, (wipeE e vs).length = e.length
  | [] => rfl
  | v :: vs => by unfold wipeE; rw [List.length_set, wipeE_len e vs]
theorem wipeE_get {e : List SD} {i : Nat} {a : SD} : ∀ {vs : List Nat}, (wipeE e vs)[i]? = some a → a = .un ∨ (e[i]? = some a ∧ i ∉ vs)
  | [], h => .inr ⟨h, by simp⟩
  | v :: vs, h => by
    unfold wipeE at h
    by_cases hi : i = v
    · subst hi
      by_cases hv : i < (wipeE e vs).length
      · rw [List.getElem?_set_self hv] at h
        exact .inl (Option.some.inj h).symm
      · rw [List.getElem?_eq_none (by simpa using hv)] at h
        cases h
    · rw [List.getElem?_set_ne (Ne.symm hi)] at h
      rcases wipeE_get h with z | ⟨z1, z2⟩
      · exact .inl z
      · exact .inr ⟨z1, by simp only [List.mem_cons, not_or]; exact ⟨hi, z2⟩⟩
theorem wipe_keep {σ : L2.St} {i : Nat} : ∀ {vs : List Nat}, i ∉ vs → (wipe σ vs)[i]? = σ[i]?
  | [], _ => rfl
  | v :: vs, h => by
    simp only [List.mem_cons, not_or] at h
    unfold wipe
    rw [List.getElem?_set_ne (Ne.symm h.1)]
    exact wipe_keep h.2
theorem wipe_at {σ : L2.St} {i : Nat} (hi : i < σ.length) : ∀ {vs : List Nat}, i ∈ vs → (wipe σ vs)[i]? = some none
  | [], h => by simp at h
  | v :: vs, h => by
    unfold wipe
    by_cases e : i = v
    · subst e
      rw [List.getElem?_set_self (by rw [wipe_length]; exact hi)]
    · rw [List.getElem?_set_ne (Ne.symm e)]
      exact wipe_at hi (by simpa [e] using h)
theorem wipe_off {σ σ' : L2.St} {vs : List Nat} (h : offv vs (wipe σ vs) σ') : wipe σ' vs = wipe σ vs := by
  have hl : σ'.length = σ.length := by rw [h.1, wipe_length]
  apply List.ext_getElem?
  intro i
  by_cases hv : i ∈ vs
  · by_cases hi : i < σ.length
    · rw [wipe_at (by omega) hv, wipe_at hi hv]
    · rw [List.getElem?_eq_none (by rw [wipe_length]; omega), List.getElem?_eq_none (by rw [wipe_length]; omega)]
  · rw [wipe_keep hv, h.2 i hv]
section
variable {K : PySem.W.Frag} {H F : Hp} {T l : List En} {σ : L2.St} {ρ : List V} {s : S}
theorem Fz.es : ∀ {e : List SD} {σ : L2.St} {l : List En}, e.length = σ.length → (∀ (i : Nat) (x : PyData) (v : Option V), e[i]? = some (SD.d x) → σ[i]? = some v → ∃ u, v = some u ∧ Dp K F u x) → Fz K F l H → Fz K F (ES e σ ++ l) H
  | [], _, _, _, _, f => f
  | a :: e, [], _, hl, _, _ => by simp at hl
  | a :: e, v :: σ, l, hl, h, f => by
    have ih := Fz.es (e := e) (σ := σ) (l := l) (by simpa using hl) (fun i x w h1 h2 => h (i + 1) x w (by simpa using h1) (by simpa using h2)) f
    show Fz K F ((itOf a, v) :: (ES e σ ++ l)) H
    cases a with
    | d x =>
      obtain ⟨u, e1, hd⟩ := h 0 x v rfl rfl
      subst e1
      exact ih.add hd
    | un => exact ih.un
    | r j => exact ih.un
theorem es_set {e : List SD} {σ : L2.St} (hl : e.length = σ.length) (i : Nat) (a : SD) (v : Option V) : ES (e.set i a) (σ.set i v) = (ES e σ).set i (itOf a, v) := by
  unfold ES
  apply List.ext_getElem?
  intro k
  rw [List.getElem?_zipWith]
  by_cases hk : k = i
  · subst hk
    by_cases hi : k < e.length
    · rw [List.getElem?_set_self hi, List.getElem?_set_self (by omega), List.getElem?_set_self (by rw [List.length_zipWith]; omega)]
    · rw [List.set_eq_of_length_le (by omega), List.set_eq_of_length_le (by omega), List.set_eq_of_length_le (by rw [List.length_zipWith]; omega), List.getElem?_zipWith]
  · rw [List.getElem?_set_ne (Ne.symm hk), List.getElem?_set_ne (Ne.symm hk), List.getElem?_set_ne (Ne.symm hk), List.getElem?_zipWith]
theorem OK.wipe {e : List SD} {σ : L2.St} (hl : e.length = σ.length) (h : OK K (T ++ (ES e σ ++ l)) H) : ∀ vs : List Nat, OK K (T ++ (ES (wipeE e vs) (L2.wipe σ vs) ++ l)) H
  | [] => h
  | v :: vs => by
    have ih := OK.wipe hl h vs
    unfold wipeE L2.wipe
    rw [es_set (by rw [wipeE_len, wipe_length]; exact hl)]
    by_cases hv : v < (ES (wipeE e vs) (L2.wipe σ vs)).length
    · have k := (ih.un (v := none)).set (T.length + v)
      rw [List.set_append_right _ _ (Nat.le_add_right _ _), Nat.add_sub_cancel_left, List.set_append_left _ _ hv] at k
      exact k
    · rw [List.set_eq_of_length_le (by omega)]
      exact ih
theorem cas {α : Type} (a b c : List α) : (a ++ (b ++ c)).Perm (b ++ (a ++ c)) := by
  rw [← List.append_assoc, ← List.append_assoc]
  exact List.Perm.append_right _ List.perm_append_comm
/-- into the block -/
theorem Sat.blk (g : Sat K s σ ρ T H) (vs : List Nat) : Sat K ⟨wipeE s.e vs, s.R⟩ (L2.wipe σ vs) ρ (ES s.e σ ++ T) H := by
  refine ⟨by rw [wipeE_len, wipe_length]; exact g.le, g.lr, fun i j e => ?_, ?_⟩
  · rcases wipeE_get e with z | ⟨z1, z2⟩
    · cases z
    · obtain ⟨v, e1, e2⟩ := g.al i j z1
      exact ⟨v, by rw [wipe_keep z2]; exact e1, e2⟩
  · obtain ⟨F, f⟩ := g.ok.fz
    have f2 : Fz K F (ES s.e σ ++ (T ++ (ES s.e σ ++ RS s.R ρ))) H := Fz.es g.le (fun i x v h1 h2 => f.at (List.mem_append_right _ (List.mem_append_left _ (List.mem_of_getElem? (es_get h1 h2))))) f
    have ok : OK K ((ES s.e σ ++ T) ++ (ES s.e σ ++ RS s.R ρ)) H := by rw [List.append_assoc]; exact f2.ok
    exact OK.wipe g.le ok vs
/-- out of it -/
theorem Sat.unblk {R : List Own} {ρ' : List V} {e' : List SD} {σ' : L2.St} {A : List En} (g : Sat K s σ ρ T H) {H' : Hp} {T' : List En} (p : ρ <+: ρ') (h : Sat K ⟨e', R⟩ σ' ρ' (A ++ (ES s.e σ ++ T')) H') : Sat K ⟨s.e, R⟩ σ ρ' (A ++ T') H' := by
  refine ⟨g.le, h.lr, fun i j e => ?_, ?_⟩
  · obtain ⟨v, e1, e2⟩ := g.al i j e
    exact ⟨v, e1, VR.mono (r := .r j) e2 p⟩
  · have k : OK K ((A ++ (ES s.e σ ++ T')) ++ (ES e' σ' ++ RS R ρ')) H' := h.ok
    have k2 : OK K (ES e' σ' ++ ((A ++ T') ++ (ES s.e σ ++ RS R ρ'))) H' := by
      refine k.perm ?_
      simp only [List.append_assoc]
      have q1 : (ES s.e σ ++ (T' ++ (ES e' σ' ++ RS R ρ'))).Perm (ES e' σ' ++ (T' ++ (ES s.e σ ++ RS R ρ'))) :=
        (cas _ _ _).trans (((cas (ES s.e σ) (ES e' σ') (RS R ρ')).append_left T').trans (cas _ _ _))
      exact (q1.append_left A).trans (cas _ _ _)
    exact k2.right
end
def ZTs (X : Cx) (ifs : List Expr) (s : S) (R : Bool → S → Prop) : Prop := PTs X ifs (tT X.K s R)
section
variable {X : Cx} {tg e a b elt iter : Expr} {es ifs : List Expr} {s s' s1 s2 : S} {ds : List PyData} {pos p : Pos} {i j : Int}
abbrev bl (X : Cx) (scope : Scope) (z : Shared × Hp × Addr × List (Str × Addr) × List Addr) : Cx := X.blk z.1 z.2.1 scope (compEnvC scope z.2.2.2.1 z.2.2.1 X.env) z.2.2.2.2
theorem lc_run {scope : Scope} {own : List (Str × Nat)} {vs : List Nat} (hvs : own.map (·.2) = vs) (Iv : Nat → List PyData → List Own → Prop) (h0 : Iv 0 [] s1.R)
    (turn : ∀ i x acc R, ds[i]? = some x → Iv i acc R → ∃ t' Rt, (∀ z, ZG (bl X scope z) tg vs x ⟨wipeE s1.e vs, R⟩ t') ∧ (∀ z, ZTs (bl X scope z) ifs t' Rt) ∧ (∀ t2, Rt false t2 → Iv (i + 1) acc t2.R) ∧
      ∀ t2, Rt true t2 → ∃ y t3, (∀ z, ZE (bl X scope z) elt t2 (.d y) t3) ∧ Iv (i + 1) (acc ++ [y]) t3.R) (hsz : ds.length < sizeLine)
    (hi : ZI X tg iter s ds s1) (hN : X.N.Nodup) (hc : X.calm = true) (ok : BlkOk X.N X.env.scope scope own) (hs : ∀ x, foldedSetIterable iter X.env x = pure x) :
    ∃ te, (PE X (.ListComp elt [⟨tg, iter, ifs, 0⟩] scope pos) te ∧ ∀ (i : Nat) (y : Str) (py spos : Pos), X.N[i]? = some y → X.env.scope.names.lookup y = some .local → swapsWith (.ListComp elt [⟨tg, iter, ifs, 0⟩] scope pos) (some (.Name y py)) spos.line X.env = pure true → PS X (.Assign [.Name y py] (.ListComp elt [⟨tg, iter, ifs, 0⟩] scope pos) spos) (tAsg te (gName i))) ∧ ∀ T σ ρ H Q, Sat X.K s σ ρ T H →
      (∀ acc R ρ' D H', Iv ds.length acc R → ρ <+: ρ' → Sat X.K ⟨s1.e, R⟩ σ ρ' ((IT.o (OL acc), some (.ref D)) :: T) H' → Q (.ref D) H') → te σ H Q := by
  subst hvs
  have hg : ∀ (sh : Shared) (H : Hp) (C : Addr) (cl : List (Str × Addr)) (fp : List Addr), PG (X.blk sh H scope (compEnvC scope cl C X.env) fp) tg (fun v σ H Q => ∃ x t t', (∀ z, ZG (bl X scope z) tg (own.map (·.2)) x t t') ∧ tG X.K (own.map (·.2)) x t t' v σ H Q) := fun sh H C cl fp =>
    ⟨fun pins sh' σ H' v u Q I r ⟨x, t, t', m, q⟩ => (m (sh, H, C, cl, fp)).run pins sh' σ H' v u Q I r q⟩
  have ht : ∀ (sh : Shared) (H : Hp) (C : Addr) (cl : List (Str × Addr)) (fp : List Addr), PTs (X.blk sh H scope (compEnvC scope cl C X.env) fp) ifs (fun σ H Q => ∃ t R, (∀ z, ZTs (bl X scope z) ifs t R) ∧ tT X.K t R σ H Q) := fun sh H C cl fp =>
    ⟨fun pins sh' σ H' Q I ⟨t, R, m, q⟩ => (m (sh, H, C, cl, fp)).run pins sh' σ H' Q I q⟩
  have he : ∀ (sh : Shared) (H : Hp) (C : Addr) (cl : List (Str × Addr)) (fp : List Addr), PE (X.blk sh H scope (compEnvC scope cl C X.env) fp) elt (fun σ H Q => ∃ t y t', (∀ z, ZE (bl X scope z) elt t (.d y) t') ∧ tE X.K t (.d y) t' σ H Q) := fun sh H C cl fp =>
    ⟨fun pins sh' σ H' Q I ⟨t, y, t', m, q⟩ => (m (sh, H, C, cl, fp)).run pins sh' σ H' Q I q⟩
  refine ⟨_, ⟨pe_lc hc hN hi ok hg ht he hs, fun i y py spos hy hyl hsw => ps_setLc hc hN hy hyl hsw hi ok hg ht he hs⟩, fun T σ ρ H Q g fin => ?_⟩
  refine ⟨T, ρ, g, fun J T0 ρ1 H1 p1 g1 w D hD => ?_⟩
  -- the block's start
  have gb := g1.blk (own.map (·.2))
  have gD : Sat X.K ⟨wipeE s1.e (own.map (·.2)), s1.R⟩ (wipe σ (own.map (·.2))) ρ1 ((IT.o (OL []), some (.ref D)) :: (ES s1.e σ ++ (T0 ++ T))) (upd H1 D (.lst [])) := by
    obtain ⟨F, f⟩ := gb.ok.fz
    exact gb.of (f.lstO (ds := []) (vs := []) .nil hD)
  refine ⟨fun i m H' => m = ds.length - i ∧ i ≤ ds.length ∧ ∃ acc R ρ', Iv i acc R ∧ acc.length ≤ i ∧ ρ1 <+: ρ' ∧ Sat X.K ⟨wipeE s1.e (own.map (·.2)), R⟩ (wipe σ (own.map (·.2))) ρ' ((IT.o (OL acc), some (.ref D)) :: (ES s1.e σ ++ (T0 ++ T))) H', ⟨_, rfl, Nat.zero_le _, [], s1.R, ρ1, h0, Nat.le_refl _, pre_refl _, gD⟩, ?_⟩
  rintro i m H' ⟨rfl, hi', acc, R, ρ', iv, hacc, p', g'⟩
  have okw : OK X.K (T0 ++ ((IT.o (OL acc), some (.ref D)) :: (ES s1.e σ ++ T) ++ (ES (wipeE s1.e (own.map (·.2))) (wipe σ (own.map (·.2))) ++ RS R ρ'))) H' := by
    refine g'.ok.perm ?_
    show ([(IT.o (OL acc), some (V.ref D))] ++ (ES s1.e σ ++ (T0 ++ T)) ++ (ES (wipeE s1.e (own.map (·.2))) (wipe σ (own.map (·.2))) ++ RS R ρ')).Perm (T0 ++ ([(IT.o (OL acc), some (V.ref D))] ++ (ES s1.e σ ++ T) ++ (ES (wipeE s1.e (own.map (·.2))) (wipe σ (own.map (·.2))) ++ RS R ρ')))
    simp only [List.append_assoc]
    exact ((cas (ES s1.e σ) T0 _).append_left _).trans (cas _ _ _)
  obtain ⟨w1, w2⟩ := w _ H' okw
  by_cases hlt : i < ds.length
  · obtain ⟨go, yl⟩ := w1 i ds[i] (List.getElem?_eq_getElem hlt)
    obtain ⟨t', Rt, hG, hT, hF, hE⟩ := turn i ds[i] acc R (List.getElem?_eq_getElem hlt) iv
    refine .inr ⟨go, fun H3 => ∃ acc R ρ', Iv (i + 1) acc R ∧ acc.length ≤ i + 1 ∧ ρ1 <+: ρ' ∧ Sat X.K ⟨wipeE s1.e (own.map (·.2)), R⟩ (wipe σ (own.map (·.2))) ρ' ((IT.o (OL acc), some (.ref D)) :: (ES s1.e σ ++ (T0 ++ T))) H3,
      fun H3 ⟨a1, a2, a3, a4⟩ => ⟨ds.length - (i + 1), by omega, rfl, hlt, a1, a2, a3, a4⟩, fun v H4 y => ?_⟩
    have okv := yl v H4 y
    have g4 : Sat X.K ⟨wipeE s1.e (own.map (·.2)), R⟩ (wipe σ (own.map (·.2))) ρ' ((IT.d ds[i], some v) :: ((IT.o (OL acc), some (.ref D)) :: (ES s1.e σ ++ (T0 ++ T)))) H4 := by
      refine ⟨g'.le, g'.lr, g'.al, okv.perm (List.Perm.cons _ ?_)⟩
      show (T0 ++ ([(IT.o (OL acc), some (V.ref D))] ++ (ES s1.e σ ++ T) ++ (ES (wipeE s1.e (own.map (·.2))) (wipe σ (own.map (·.2))) ++ RS R ρ'))).Perm ([(IT.o (OL acc), some (V.ref D))] ++ (ES s1.e σ ++ (T0 ++ T)) ++ (ES (wipeE s1.e (own.map (·.2))) (wipe σ (own.map (·.2))) ++ RS R ρ'))
      simp only [List.append_assoc]
      exact (cas _ _ _).trans ((cas T0 (ES s1.e σ) _).append_left _)
    -- the same again with a second copy of the frame, for the way back
    refine ⟨ds[i], _, t', hG, _, ρ', ⟨g4.le, g4.lr, g4.al, g4.ok⟩, fun σ2 o g5 => ⟨wipe_off o, ?_⟩⟩
    have back : ∀ {R2 : List Own} {e2 : List SD} {ρ2 : List V} {acc2 : List PyData} {H2 : Hp}, ρ' <+: ρ2 → Sat X.K ⟨e2, R2⟩ σ2 ρ2 ((IT.o (OL acc2), some (.ref D)) :: (ES s1.e σ ++ (T0 ++ T))) H2 →
        Sat X.K ⟨wipeE s1.e (own.map (·.2)), R2⟩ (wipe σ (own.map (·.2))) ρ2 ((IT.o (OL acc2), some (.ref D)) :: (ES s1.e σ ++ (T0 ++ T))) H2 := fun {R2 e2 ρ2 acc2 H2} p2 g2 => by
      have b := g1.unblk (A := [(IT.o (OL acc2), some (.ref D))]) (p'.trans p2) g2
      have b2 := b.blk (own.map (·.2))
      refine b2.tperm ?_
      exact List.perm_middle
    refine ⟨t', Rt, hT, _, ρ', g5, fun b t2 ρ2 H5 hr p2 g6 => ?_⟩
    cases b with
    | false => exact ⟨acc, t2.R, ρ2, hF t2 hr, by omega, p'.trans p2, back p2 g6⟩
    | true =>
      obtain ⟨yd, t3, hy, iv3⟩ := hE t2 hr
      show ∃ _, _
      refine ⟨t2, yd, t3, hy, _, ρ2, g6, fun u ρ3 H6 p3 _ g7 => ?_⟩
      have g8 : OK X.K ((IT.o (OL acc), some (.ref D)) :: ((IT.d yd, some u) :: (ES s1.e σ ++ (T0 ++ T)) ++ (ES t3.e σ2 ++ RS t3.R ρ3))) H6 := g7.ok.perm (List.Perm.swap _ _ _)
      obtain ⟨F, f⟩ := g8.fz
      obtain ⟨pD, vs, e3, h1, h2, h3⟩ := f.putL (ds' := acc)
      cases e3
      obtain ⟨u', e4, hu⟩ := f.at (x := yd) (v := some u) (List.mem_cons_of_mem _ List.mem_cons_self)
      cases e4
      refine ⟨vs, h1, by rw [dpsLen h2]; omega, acc ++ [yd], t3.R, ρ3, iv3, by rw [List.length_append]; exact Nat.succ_le_succ hacc, (p'.trans p2).trans p3, back (e2 := t3.e) (p2.trans p3) ?_⟩
      have k := h3 (acc ++ [yd]) (vs ++ [u]) (dpsApp h2 (.cons hu .nil))
      exact ⟨g7.le, g7.lr, g7.al, ((k.perm (List.Perm.swap _ _ _)).tail)⟩
  · have e : i = ds.length := by omega
    subst e
    refine .inl ⟨w2, fin acc R ρ' D H' iv (p1.trans p') ?_⟩
    have b := g1.unblk (A := [(IT.o (OL acc), some (.ref D))]) p' g'
    have b2 : Sat X.K ⟨s1.e, R⟩ σ ρ' ((IT.o (OL acc), some (.ref D)) :: (T0 ++ T)) H' := b
    have b3 : Sat X.K ⟨s1.e, R⟩ σ ρ' (T0 ++ ((IT.o (OL acc), some (.ref D)) :: T)) H' := b2.tperm List.perm_middle.symm
    exact b3.tdrops
end

def ie (ds : List IT) (vs : List V) : List En := List.zipWith (fun i v => (i, some v)) ds vs
def sl : List IT → Nat → List SD
  | [], _ => []
  | .o _ :: r, n => .r n :: sl r (n + 1)
  | .d x :: r, n => .d x :: sl r n
  | .un :: r, n => .un :: sl r n
def objs : List IT → List Own
  | [] => []
  | .o P :: r => P :: objs r
  | _ :: r => objs r
def vals : List IT → List V → List V
  | .o _ :: r, v :: vs => v :: vals r vs
  | _ :: r, _ :: vs => vals r vs
  | _, _ => []
def back : List IT → List Own → List IT
  | [], _ => []
  | .o _ :: r, P :: Os => .o P :: back r Os
  | .o _ :: r, [] => .un :: back r []
  | _ :: r, Os => .un :: back r Os
/-- a def's promise: what is asked of the arguments; result and objects behind it -/
def spZ (K : PySem.W.Frag) (Pre : List IT → Prop) (Rel : List IT → IT → List Own → Prop) : Sp := fun vs H Q _ => ∃ ds T, Pre ds ∧ ds.length = vs.length ∧ OK K (ie ds vs ++ T) H ∧
  ∀ z Os v H', Rel ds z Os → OK K ((z, some v) :: (ie (back ds Os) vs ++ T)) H' → Q v H'
section
variable {K : PySem.W.Frag} {H : Hp}
theorem vals_len : ∀ {ds : List IT} {vs : List V}, ds.length = vs.length → (vals ds vs).length = (objs ds).length
  | [], [], _ => rfl
  | .o P :: r, v :: vs, h => by simp [vals, objs, vals_len (ds := r) (vs := vs) (by simpa using h)]
  | .d x :: r, v :: vs, h => by simp [vals, objs, vals_len (ds := r) (vs := vs) (by simpa using h)]
  | .un :: r, v :: vs, h => by simp [vals, objs, vals_len (ds := r) (vs := vs) (by simpa using h)]
  | [], _ :: _, h => by simp at h
  | _ :: _, [], h => by simp at h
theorem sl_len : ∀ {ds : List IT} {n : Nat}, (sl ds n).length = ds.length
  | [], _ => rfl
  | .o P :: r, n => by simp [sl, sl_len (ds := r)]
  | .d x :: r, n => by simp [sl, sl_len (ds := r)]
  | .un :: r, n => by simp [sl, sl_len (ds := r)]
theorem enter : ∀ {ds : List IT} {vs : List V} {n : Nat} {T : List En}, ds.length = vs.length → OK K (ie ds vs ++ T) H → OK K (T ++ (ES (sl ds n) (vs.map some) ++ RS (objs ds) (vals ds vs))) H
  | [], [], n, T, _, h => by
    show OK K (T ++ []) H
    rw [List.append_nil]
    exact h
  | .o P :: r, v :: vs, n, T, hl, h => by
    have h1 : OK K (ie r vs ++ ((IT.o P, some v) :: T)) H := OK.perm List.perm_middle.symm h
    have h2 := enter (ds := r) (vs := vs) (n := n + 1) (T := (IT.o P, some v) :: T) (by simpa using hl) h1
    have h3 : OK K ((IT.un, some v) :: ((IT.o P, some v) :: (T ++ (ES (sl r (n + 1)) (vs.map some) ++ RS (objs r) (vals r vs))))) H := OK.un h2
    refine h3.perm ?_
    show ([(IT.un, some v)] ++ ([(IT.o P, some v)] ++ (T ++ (ES (sl r (n + 1)) (vs.map some) ++ RS (objs r) (vals r vs))))).Perm (T ++ ([(IT.un, some v)] ++ ES (sl r (n + 1)) (vs.map some) ++ ([(IT.o P, some v)] ++ RS (objs r) (vals r vs))))
    simp only [List.append_assoc]
    refine ((((cas _ _ _).append_left _).trans (cas _ _ _)).trans (List.Perm.append_left _ ?_))
    exact (cas _ _ _).append_left _
  | .d x :: r, v :: vs, n, T, hl, h => by
    have h1 : OK K (ie r vs ++ ((IT.d x, some v) :: T)) H := OK.perm List.perm_middle.symm h
    have h2 := enter (ds := r) (vs := vs) (n := n) (T := (IT.d x, some v) :: T) (by simpa using hl) h1
    exact OK.perm List.perm_middle.symm h2
  | .un :: r, v :: vs, n, T, hl, h => by
    have h1 : OK K (ie r vs ++ ((IT.un, some v) :: T)) H := OK.perm List.perm_middle.symm h
    have h2 := enter (ds := r) (vs := vs) (n := n) (T := (IT.un, some v) :: T) (by simpa using hl) h1
    exact OK.perm List.perm_middle.symm h2
  | [], _ :: _, _, _, h, _ => by simp at h
  | _ :: _, [], _, _, h, _ => by simp at h
theorem leave : ∀ {ds : List IT} {vs : List V} {R : List Own} {T : List En}, ds.length = vs.length → R.length = (objs ds).length → OK K (T ++ RS R (vals ds vs)) H → OK K (ie (back ds R) vs ++ T) H
  | [], [], R, T, _, hr, h => by
    cases R with
    | nil => rw [show T ++ RS [] (vals [] []) = T from List.append_nil T] at h; exact h
    | cons => simp [objs] at hr
  | .o P :: r, v :: vs, P' :: R, T, hl, hr, h => by
    have h1 : OK K (((IT.o P', some v) :: T) ++ RS R (vals r vs)) H := by
      refine OK.perm ?_ h
      exact List.perm_middle
    have h2 := leave (ds := r) (vs := vs) (R := R) (T := (IT.o P', some v) :: T) (by simpa using hl) (by simpa [objs] using hr) h1
    exact OK.perm List.perm_middle h2
  | .o P :: r, v :: vs, [], T, hl, hr, h => by simp [objs] at hr
  | .d x :: r, v :: vs, R, T, hl, hr, h => by
    have h2 := leave (ds := r) (vs := vs) (R := R) (T := T) (by simpa using hl) (by simpa [objs] using hr) h
    cases R <;> exact h2.un
  | .un :: r, v :: vs, R, T, hl, hr, h => by
    have h2 := leave (ds := r) (vs := vs) (R := R) (T := T) (by simpa using hl) (by simpa [objs] using hr) h
    cases R <;> exact h2.un
  | [], _ :: _, _, _, h, _, _ => by simp at h
  | _ :: _, [], _, _, h, _, _ => by simp at h
theorem sl_ref : ∀ {ds : List IT} {vs : List V} {n i j : Nat}, ds.length = vs.length → (sl ds n)[i]? = some (SD.r j) → n ≤ j ∧ ∃ v, vs[i]? = some v ∧ (vals ds vs)[j - n]? = some v
  | [], [], _, i, _, _, e => by simp [sl] at e
  | .o P :: r, v :: vs, n, 0, j, hl, e => by
    simp [sl] at e
    subst e
    exact ⟨Nat.le_refl _, v, rfl, by simp [vals]⟩
  | .o P :: r, v :: vs, n, i + 1, j, hl, e => by
    obtain ⟨h0, w, h1, h2⟩ := sl_ref (ds := r) (vs := vs) (n := n + 1) (i := i) (j := j) (by simpa using hl) (by simpa [sl] using e)
    refine ⟨by omega, w, by simpa using h1, ?_⟩
    rw [show j - n = (j - (n + 1)) + 1 by omega]
    simpa [vals] using h2
  | .d x :: r, v :: vs, n, 0, j, hl, e => by simp [sl] at e
  | .d x :: r, v :: vs, n, i + 1, j, hl, e => by
    obtain ⟨h0, w, h1, h2⟩ := sl_ref (ds := r) (vs := vs) (n := n) (i := i) (j := j) (by simpa using hl) (by simpa [sl] using e)
    exact ⟨h0, w, by simpa using h1, by simpa [vals] using h2⟩
  | .un :: r, v :: vs, n, 0, j, hl, e => by simp [sl] at e
  | .un :: r, v :: vs, n, i + 1, j, hl, e => by
    obtain ⟨h0, w, h1, h2⟩ := sl_ref (ds := r) (vs := vs) (n := n) (i := i) (j := j) (by simpa using hl) (by simpa [sl] using e)
    exact ⟨h0, w, by simpa using h1, by simpa [vals] using h2⟩
  | [], _ :: _, _, _, _, h, _ => by simp at h
  | _ :: _, [], _, _, _, h, _ => by simp at h
theorem es_un : ∀ (e : List SD) (vs : List V) (n : Nat) {T : List En}, e.length = vs.length → OK K (T ++ ES e (vs.map some)) H → OK K (T ++ ES (e ++ List.replicate n .un) (vs.map some ++ List.replicate n none)) H := fun e vs n T hl h => by
  have q : ES (e ++ List.replicate n .un) (vs.map some ++ List.replicate n none) = ES e (vs.map some) ++ List.replicate n (IT.un, none) := by
    unfold ES
    rw [List.zipWith_append (by rw [List.length_map]; exact hl)]
    congr 1
    exact List.zipWith_replicate' ..
  rw [q]
  induction n with
  | zero => rw [List.replicate_zero, List.append_nil]; exact h
  | succ n ih =>
    have k := OK.un (v := none) (ih (by unfold ES; rw [List.zipWith_append (by rw [List.length_map]; exact hl)]; congr 1; exact List.zipWith_replicate' ..))
    refine k.perm ?_
    rw [List.replicate_succ, ← List.append_assoc, ← List.append_assoc]
    exact List.perm_middle.symm
/-- what a return hands back -/
def retOK (b : Nat) (ds : List IT) (Rel : List IT → IT → List Own → Prop) (r : SD) (t : S) : Prop := match r with
  | .d x => Rel ds (.d x) (t.R.take b)
  | .r j => b ≤ j ∧ ((∃ P, t.R[j]? = some P ∧ Rel ds (.o P) (t.R.take b)) ∨ ∃ es, t.R[j]? = some (OL es) ∧ Rel ds (.d (.list es)) (t.R.take b))
  | .un => False
def inSt (ds : List IT) (n : Nat) : S := ⟨sl ds 0 ++ List.replicate n .un, objs ds⟩
def inPo (ds : List IT) (Rel : List IT → IT → List Own → Prop) : Po := { b := (objs ds).length, nx := fun t => Rel ds (.d .none) (t.R.take (objs ds).length), rt := retOK (objs ds).length ds Rel }
theorem take_set {α : Type} {l : List α} {b j : Nat} {x : α} (h : b ≤ j) : (l.set j x).take b = l.take b := by
  apply List.ext_getElem?
  intro i
  by_cases hi : i < b
  · rw [List.getElem?_take_of_lt hi, List.getElem?_take_of_lt hi, List.getElem?_set_ne (by omega)]
  · rw [List.getElem?_eq_none (by rw [List.length_take]; omega), List.getElem?_eq_none (by rw [List.length_take]; omega)]
theorem run_body {Rel : List IT → IT → List Own → Prop} {ds : List IT} {T : List En} {vs : List V} {Q : VK} {N : List Str} {X : Cx} {body : List Stmt} (hK : X.K = K) (hl : ds.length = vs.length) (ok : OK K (ie ds vs ++ T) H) (q : ∀ z Os v H', Rel ds z Os → OK K ((z, some v) :: (ie (back ds Os) vs ++ T)) H' → Q v H')
    (h : ZSs X body (inSt ds (N.length - vs.length)) (inPo ds Rel)) : ∃ t, PSs X body t ∧ t { nx := fun _ H' => Q .non H', rt := Q } (start N vs) H := by
  refine ⟨_, h, inSt ds (N.length - vs.length), T, vals ds vs, rfl, Nat.le_of_eq (vals_len hl).symm, ?_, ?_⟩
  · refine ⟨?_, (vals_len hl).symm, fun i j e => ?_, ?_⟩
    · show (sl ds 0 ++ List.replicate _ _).length = (vs.map some ++ List.replicate _ none).length
      simp [sl_len, hl]
    · have e' : (sl ds 0 ++ List.replicate (N.length - vs.length) SD.un)[i]? = some (SD.r j) := e
      by_cases hi : i < (sl ds 0).length
      · rw [List.getElem?_append_left hi] at e'
        obtain ⟨_, v, h1, h2⟩ := sl_ref hl e'
        refine ⟨v, ?_, by simpa using h2⟩
        show (vs.map some ++ _)[i]? = _
        rw [List.getElem?_append_left (by rw [List.length_map, ← hl, ← sl_len (n := 0)]; exact hi), List.getElem?_map, h1]
        rfl
      · rw [List.getElem?_append_right (by omega)] at e'
        rw [List.getElem?_replicate] at e'
        split at e' <;> cases e'
    · rw [hK]
      have k := enter (n := 0) hl ok
      have k2 : OK K ((RS (objs ds) (vals ds vs) ++ T) ++ ES (sl ds 0) (vs.map some)) H := by
        refine k.perm ?_
        rw [← List.append_assoc]
        refine (List.perm_append_comm).trans ?_
        rw [← List.append_assoc]
      have k3 := es_un (sl ds 0) vs (N.length - vs.length) (T := RS (objs ds) (vals ds vs) ++ T) (by rw [sl_len]; exact hl) k2
      refine k3.perm ?_
      show (RS (objs ds) (vals ds vs) ++ T ++ ES (sl ds 0 ++ List.replicate (N.length - vs.length) SD.un) (vs.map some ++ List.replicate (N.length - vs.length) none)).Perm (T ++ (ES (sl ds 0 ++ List.replicate (N.length - vs.length) SD.un) (vs.map some ++ List.replicate (N.length - vs.length) none) ++ RS (objs ds) (vals ds vs)))
      rw [List.append_assoc]
      refine (List.perm_append_comm).trans ?_
      rw [List.append_assoc]
  · have lv := vals_len (ds := ds) (vs := vs) hl
    have tk : (vals ds vs).take (inPo ds Rel).b = vals ds vs := List.take_of_length_le (by rw [lv]; exact Nat.le_refl _)
    rw [tk, hK]
    -- out of the end's state: the objects of the arguments
    have out : ∀ {s' : S} {σ' : L2.St} {ρ' : List V} {H' : Hp} {A : List En}, vals ds vs <+: ρ' → Sat K s' σ' ρ' (A ++ T) H' → OK K (A ++ (ie (back ds (s'.R.take (objs ds).length)) vs ++ T)) H' := fun {s' σ' ρ' H' A} p g => by
      obtain ⟨m, rfl⟩ := p
      have lr := g.lr
      rw [List.length_append] at lr
      have q1 : RS s'.R (vals ds vs ++ m) = RS (s'.R.take (objs ds).length) (vals ds vs) ++ RS (s'.R.drop (objs ds).length) m := by
        unfold RS
        rw [← List.zipWith_append (by rw [List.length_take, lv]; omega), List.take_append_drop]
      have k := g.ok
      rw [q1] at k
      have k2 : OK K ((ES s'.e σ' ++ RS (s'.R.drop (objs ds).length) m) ++ ((A ++ T) ++ RS (s'.R.take (objs ds).length) (vals ds vs))) H' := by
        refine k.perm ?_
        simp only [List.append_assoc]
        refine ((cas T _ _).append_left A).trans ?_
        refine (cas A _ _).trans ?_
        refine List.Perm.append_left _ ?_
        refine ((List.Perm.append_left T (List.perm_append_comm)).append_left A).trans ?_
        refine ((cas T _ _).append_left A).trans ?_
        exact cas A _ _
      have k3 := leave hl (by rw [List.length_take]; omega) k2.right
      exact k3.perm (cas _ _ _)
    refine ⟨fun s' σ' ρ' H' a p g => ?_, fun r s' σ' ρ' H' v a p vr g => ?_, fun _ _ _ _ z => z.elim, fun _ _ _ _ z => z.elim⟩
    · exact q _ _ .non H' a (OK.flat (show flat .non .none from trivial) (out (A := []) p g))
    · cases r with
      | un => exact a.elim
      | d x => exact q _ _ v H' a (out (A := [(IT.d x, some v)]) p g)
      | r j =>
        obtain ⟨hb, a⟩ := a
        rcases a with ⟨P, hP, a⟩ | ⟨es, hP, a⟩
        · obtain ⟨w, e2, ok2, _⟩ := g.obj hP
          have ev : w = v := Option.some.inj (e2.symm.trans vr)
          subst ev
          -- the object's own place is given up
          have g3 : Sat K ⟨s'.e, s'.R.set j gone⟩ σ' ρ' ([(IT.o P, some w)] ++ T) H' := by
            refine ZE.frz.back2 (P := P) (T2 := [(IT.o P, some w)] ++ T) g hP e2 ?_
            have k := (OK.perm (List.Perm.swap _ _ _) ok2).tail
            obtain ⟨F2, L, e1, gg⟩ := k
            have c := gg.oCons (v := w) (P := gone) (fp := []) rfl List.nodup_nil (fun a ha => by cases ha) (fun a ha => by cases ha)
            exact ⟨F2, (((IT.o gone, some w), []) :: L), by rw [List.map_cons, e1]; rfl, c⟩
          refine q _ _ w H' a ?_
          have k := out p g3
          rw [show (⟨s'.e, s'.R.set j gone⟩ : S).R = s'.R.set j gone from rfl, take_set hb] at k
          exact k
        · obtain ⟨w, e2, ok2, _⟩ := g.obj hP
          have ev : w = v := Option.some.inj (e2.symm.trans vr)
          subst ev
          obtain ⟨F, f⟩ := ok2.fz
          have g3 : Sat K ⟨s'.e, s'.R.set j gone⟩ σ' ρ' ([(IT.d (.list es), some w)] ++ T) H' := by
            refine ZE.frz.back2 (P := OL es) (T2 := [(IT.d (.list es), some w)] ++ T) g hP e2 ?_
            have k := (OK.perm (List.Perm.swap _ _ _) f.freeze).tail
            obtain ⟨F2, L, e1, gg⟩ := k
            have c := gg.oCons (v := w) (P := gone) (fp := []) rfl List.nodup_nil (fun a ha => by cases ha) (fun a ha => by cases ha)
            exact ⟨F2, (((IT.o gone, some w), []) :: L), by rw [List.map_cons, e1]; rfl, c⟩
          refine q _ _ w H' a ?_
          have k := out p g3
          rw [show (⟨s'.e, s'.R.set j gone⟩ : S).R = s'.R.set j gone from rfl, take_set hb] at k
          exact k
end
end Z

namespace Z
open PySem L2 PyProof.Rows

abbrev Pre := List IT → Prop
abbrev Rel := List IT → IT → List Own → Prop
/-- a def that may be called by its name and raises nothing -/
structure Cal (P : Program) (w : World) (K : PySem.W.Frag) (mg : Str → Option Value) (base : Heap) (k : Nat) (x : Str) (pre : Pre) (rel : Rel) : Prop where
  ex : ∃ (f : Addr) (fd : FuncData) (ps : List Str), FnOk P w K mg base CX0 k f fd ps (spZ K pre rel) ∧ mg x = some (.ref f) ∧ PySem.W.keepIn K (.ref f) = true ∧ Binds K fd ps []
/-- the text of a def, by its name: what the top has left -/
structure Dfn (K : PySem.W.Frag) (mg : Str → Option Value) (x : Str) (st : Stmt) (ps : List Str) : Prop where
  ex : ∃ (f : Addr) (fd : FuncData), Fun K x x st f fd ∧ mg x = some (.ref f) ∧ Binds K fd ps []
section
variable {P : Program} {w : World} {K : PySem.W.Frag} {mg : Str → Option Value} {base : Heap} {x : Str} {st : Stmt} {ps N : List Str} {k : Nat} {pre : Pre} {rel : Rel}
theorem Cal.mono {j : Nat} (c : Cal P w K mg base k x pre rel) (h : k ≤ j) : Cal P w K mg base j x pre rel := let ⟨f, fd, ps, F, r⟩ := c.ex; ⟨f, fd, ps, F.mono h, r⟩
theorem Cal.imp {pre' : Pre} {rel' : Rel} (c : Cal P w K mg base k x pre rel) (h1 : ∀ ds, pre' ds → pre ds) (h2 : ∀ ds z Os, pre' ds → rel ds z Os → rel' ds z Os) : Cal P w K mg base k x pre' rel' :=
  let ⟨f, fd, ps, F, r⟩ := c.ex; ⟨f, fd, ps, F.imp fun vs H Q E ⟨ds, T, a, b, c, d⟩ => ⟨ds, T, h1 _ a, b, c, fun z Os v H' q => d z Os v H' (h2 _ _ _ a q)⟩, r⟩
end
section
variable {X : Cx} {e : Expr} {es : List Expr} {s s1 s2 : S} {rs : List SD} {pos p : Pos} {x : Str} {k j : Nat} {pre : Pre} {rel : Rel} {ds as bs : List PyData} {zd : PyData}
end
end Z

namespace Z
open PySem L2 PyProof.Rows

section
variable {A : Type} (args : A → List IT) (ask : A → Prop) (res : A → IT) (outs : A → List Own)
def preOf : Pre := fun ds => ∃ x, ask x ∧ ds = args x
def relOf : Rel := fun ds z Os => ∀ x, ask x → ds = args x → z = res x ∧ Os = outs x
end
/-- what a return is to be -/
def retS (b : Nat) (z0 : IT) (O0 : List Own) (r : SD) (t : S) : Prop := match r with
  | .d x => z0 = .d x ∧ t.R.take b = O0
  | .r j => b ≤ j ∧ ((∃ P, t.R[j]? = some P ∧ z0 = .o P) ∨ ∃ es, t.R[j]? = some (OL es) ∧ z0 = .d (.list es)) ∧ t.R.take b = O0
  | .un => False
def poS (b : Nat) (z0 : IT) (O0 : List Own) : Po := { b := b, nx := fun t => z0 = .d .none ∧ t.R.take b = O0, rt := retS b z0 O0 }
theorem PSs.wk {X : Cx} {sts : List Stmt} {s : S} {P Q : Po} (h : ZSs X sts s P) (hb : Q.b = P.b) (h1 : ∀ t, P.nx t → Q.nx t) (h2 : ∀ r t, P.rt r t → Q.rt r t) (h3 : ∀ t, P.bk t → Q.bk t) (h4 : ∀ t, P.ct t → Q.ct t) : ZSs X sts s Q :=
  PSs.imp h fun D σ H ⟨t, T, ρ, e1, b, g, q⟩ => ⟨t, T, ρ, e1, by rw [← hb]; exact b, g, by
    rw [hb] at q
    exact ⟨fun s' σ' ρ' H' a => q.nx s' σ' ρ' H' (h1 _ a), fun r s' σ' ρ' H' v a => q.rt r s' σ' ρ' H' v (h2 _ _ a), fun s' σ' ρ' H' a => q.bk s' σ' ρ' H' (h3 _ a), fun s' σ' ρ' H' a => q.ct s' σ' ρ' H' (h4 _ a)⟩⟩
section
variable {P : Program} {w : World} {K : PySem.W.Frag} {mg : Str → Option Value} {base : Heap} {x : Str} {st : Stmt} {ps N : List Str} {k : Nat}
variable {A : Type} {args : A → List IT} {ask : A → Prop} {res : A → IT} {outs : A → List Own}
end
section
variable {X : Cx} {e : Expr} {es : List Expr} {s s1 s2 : S} {rs : List SD} {pos p : Pos} {x : Str} {k j : Nat} {zd : PyData} {O O' : Own}
variable {A : Type} {args : A → List IT} {ask : A → Prop} {res : A → IT} {outs : A → List Own}
end
end Z

namespace Z
open PySem L2 PyProof.Rows

noncomputable instance decPD : DecidableEq PyData := fun a b => Classical.propDecidable (a = b)
mutual
def isAt (h : Heap) : PyData → Value → Prop
  | .int i, v => ∃ t, v = .int i t
  | .str x, v => ∃ t, v = .str x t
  | .tuple ds, v => ∃ a, v = .ref a ∧ ∃ o its n, h.get? a = some o ∧ o.cls = .type "tuple" ∧ o.data = .seq its n ∧ isAts h ds its.toList
  | _, _ => False
def isAts (h : Heap) : List PyData → List Value → Prop
  | [], [] => True
  | d :: ds, v :: vs => isAt h d v ∧ isAts h ds vs
  | _, _ => False
end
mutual
def dep : PyData → Nat
  | .tuple ds => deps ds + 1
  | _ => 0
def deps : List PyData → Nat
  | [] => 0
  | d :: ds => max (dep d) (deps ds)
end
mutual
def hashD (w : World) : PyData → Int
  | .int i => hashInt i
  | .str x => hashStr w x
  | .tuple ds => reduceHash (Builtin.Tuple.tupleHashOf (hashDs w ds))
  | _ => 0
def hashDs (w : World) : List PyData → List Int
  | [] => []
  | d :: ds => hashD w d :: hashDs w ds
end
mutual
def drw : PyData → Nat
  | .tuple ds => drws ds + 1
  | _ => 1
def drws : List PyData → Nat
  | [] => 0
  | d :: ds => drw d + drws ds
end
mutual
theorem isAt_inj {h : Heap} : ∀ {x y : PyData} {v : Value}, isAt h x v → isAt h y v → x = y
  | .int i, y, v, hx, hy => by
    obtain ⟨t, rfl⟩ := hx
    cases y with
    | int j => obtain ⟨t', e⟩ := hy; injection e with e1 _; rw [e1]
    | str => obtain ⟨t', e⟩ := hy; cases e
    | tuple => obtain ⟨a, e, _⟩ := hy; cases e
    | _ => exact hy.elim
  | .str i, y, v, hx, hy => by
    obtain ⟨t, rfl⟩ := hx
    cases y with
    | str j => obtain ⟨t', e⟩ := hy; injection e with e1 _; rw [e1]
    | int => obtain ⟨t', e⟩ := hy; cases e
    | tuple => obtain ⟨a, e, _⟩ := hy; cases e
    | _ => exact hy.elim
  | .tuple ds, y, v, hx, hy => by
    obtain ⟨a, rfl, o, its, n, h1, h2, h3, h4⟩ := hx
    cases y with
    | int j => obtain ⟨t', e⟩ := hy; cases e
    | str => obtain ⟨t', e⟩ := hy; cases e
    | tuple es =>
      obtain ⟨a', e, o', its', n', g1, g2, g3, g4⟩ := hy
      cases e
      rw [h1] at g1
      cases g1
      rw [h3] at g3
      cases g3
      rw [isAts_inj h4 g4]
    | _ => exact hy.elim
  | .none, _, _, hx, _ => hx.elim
  | .bool _, _, _, hx, _ => hx.elim
  | .list _, _, _, hx, _ => hx.elim
  | .dict _, _, _, hx, _ => hx.elim
theorem isAts_inj {h : Heap} : ∀ {x y : List PyData} {v : List Value}, isAts h x v → isAts h y v → x = y
  | [], [], [], _, _ => rfl
  | [], _ :: _, [], _, hy => hy.elim
  | _ :: _, _, [], hx, _ => hx.elim
  | [], _, _ :: _, hx, _ => hx.elim
  | _ :: _, [], _ :: _, _, hy => hy.elim
  | d :: ds, e :: es, v :: vs, hx, hy => by rw [isAt_inj hx.1 hy.1, isAts_inj hx.2 hy.2]
end
mutual
theorem isAt_keep {h h' : Heap} (k : ∀ a o its n, h.get? a = some o → o.data = .seq its n → h'.get? a = some o) : ∀ {x : PyData} {v : Value}, isAt h x v → isAt h' x v
  | .int i, v, hx => hx
  | .str i, v, hx => hx
  | .tuple ds, v, hx => by
    obtain ⟨a, e, o, its, n, h1, h2, h3, h4⟩ := hx
    exact ⟨a, e, o, its, n, k a o its n h1 h3, h2, h3, isAts_keep k h4⟩
  | .none, _, hx => hx.elim
  | .bool _, _, hx => hx.elim
  | .list _, _, hx => hx.elim
  | .dict _, _, hx => hx.elim
theorem isAts_keep {h h' : Heap} (k : ∀ a o its n, h.get? a = some o → o.data = .seq its n → h'.get? a = some o) : ∀ {x : List PyData} {v : List Value}, isAts h x v → isAts h' x v
  | [], [], _ => trivial
  | [], _ :: _, hx => hx.elim
  | _ :: _, [], hx => hx.elim
  | d :: ds, v :: vs, hx => ⟨isAt_keep k hx.1, isAts_keep k hx.2⟩
end
theorem isAts_len {h : Heap} : ∀ {x : List PyData} {v : List Value}, isAts h x v → x.length = v.length
  | [], [], _ => rfl
  | [], _ :: _, hx => hx.elim
  | _ :: _, [], hx => hx.elim
  | d :: ds, v :: vs, hx => by simp [isAts_len hx.2]
section
variable {prog : Program} {w : World}
theorem hash_tup (A : Around) (E : Value → Shared → Prop) (ds : List PyData) (ih : ∀ d ∈ ds, ∀ (s : Shared) (v : Value) (Q : Int → Shared → Prop), isAt s.heap d v → Q (hashD w d) { s with toks := s.toks + drw d } → wpAny (model prog w) A.in1 (pyHash v) Q E s)
    (s : Shared) (v : Value) (Q : Int → Shared → Prop) (hu : A.units < cLine) (hx : isAt s.heap (.tuple ds) v) (h : Q (hashD w (.tuple ds)) { s with toks := s.toks + drw (.tuple ds) }) : wpAny (model prog w) A (pyHash v) Q E s := by
  obtain ⟨a, rfl, o, its, n, ho, hc, hd, hi⟩ := hx
  have hT : s.TypeIs (.ref a) "tuple" := ⟨o, ho, hc⟩
  unfold pyHash pyHashByItsType
  refine wpAny_bind (wpAny_cRoomFor_or (.inr hu) ?_)
  refine wpAny_bind (wpAny_specialOf hT F.slot_tuple_hash.lookup ?_)
  have nn : (some (Value.builtin "tuple.__hash__") == some Value.none) = false := beq_builtin_none ..
  dsimp only
  rw [if_neg (by rw [nn]; exact Bool.false_ne_true)]
  refine wpAny_bind (wpAny_specialOf hT F.slot_tuple_hash.lookup ?_)
  refine wpAny_bind (wpAny_callSpecialIfBoundUnlessNone?_slot hT F.slot_tuple_hash (wpAny_call_entry F.slot_tuple_hash hT F.entry_tuple_hash ?_ (F.args_tuple_hash_1 _)))
  show wpAny _ _ (Builtin.Tuple.tupleItemsOf (.ref a) >>= _) _ _ s
  refine wpAny_bind (wpAny_tupleItemsOf ho hd ?_)
  refine wpAny_bind ?_
  rw [← Array.forIn_toList]
  refine wpAny_forIn_list _ (fun rest (b : Array Int) s' => ∃ xs ys, ds = xs ++ ys ∧ isAts s.heap ys rest ∧ b.toList = hashDs w xs ∧ s' = { s with toks := s.toks + drws xs }) _ ?_ ?_ _ _ ⟨[], ds, rfl, hi, rfl, rfl⟩
  · rintro x rest b s' ⟨xs, ys, e1, e2, e3, rfl⟩
    cases ys with
    | nil => exact e2.elim
    | cons y ys =>
      refine wpAny_bind (ih y (by rw [e1]; simp) _ x _ e2.1 ?_)
      refine wpAny_pure ⟨xs ++ [y], ys, by rw [e1]; simp, e2.2, ?_, ?_⟩
      · rw [Array.toList_push, e3]
        clear e1 e3
        induction xs with
        | nil => rfl
        | cons z zs ihz =>
          show hashD w z :: (hashDs w zs ++ [hashD w y]) = hashD w z :: hashDs w (zs ++ [y])
          rw [ihz]
      · have dl : ∀ l : List PyData, drws (l ++ [y]) = drws l + drw y := fun l => by
          induction l with
          | nil => show drw y + 0 = 0 + drw y; omega
          | cons z zs ihz => show drw z + drws (zs ++ [y]) = drw z + drws zs + drw y; rw [ihz]; omega
        rw [dl, Nat.add_assoc]
  · rintro b s' ⟨xs, ys, e1, e2, e3, rfl⟩
    cases ys with
    | cons y ys => exact e2.elim
    | nil =>
      rw [List.append_nil] at e1
      subst e1
      show wpAny _ _ (retInt (Builtin.Tuple.tupleHashOf b.toList)) _ _ _
      rw [e3]
      refine wpAny_ret_mkInt ?_
      have hh : Q (reduceHash (Builtin.Tuple.tupleHashOf (hashDs w ds))) { s with toks := s.toks + (drws ds + 1) } := h
      unfold reduceHash at hh
      show wpAny _ _ (pyHashByItsType.reduced (Builtin.Tuple.tupleHashOf (hashDs w ds))) Q E _
      unfold pyHashByItsType.reduced
      by_cases hr : (decide (-(2 : Int) ^ 63 ≤ Builtin.Tuple.tupleHashOf (hashDs w ds)) && decide (Builtin.Tuple.tupleHashOf (hashDs w ds) < 2 ^ 63)) = true
      · rw [if_pos hr] at hh ⊢
        exact wpAny_pure (by rw [Nat.add_assoc]; exact hh)
      · rw [if_neg hr] at hh ⊢
        exact wpAny_bind (wpAny_rule (wpAny_pure (by rw [Nat.add_assoc]; exact hh)))
theorem dep_mem : ∀ {ds : List PyData} {d : PyData}, d ∈ ds → dep d ≤ deps ds
  | [], d, h => by simp at h
  | e :: es, d, h => by
    have h1 : deps (e :: es) = max (dep e) (deps es) := rfl
    rcases List.mem_cons.mp h with z | z
    · subst z; omega
    · have := dep_mem z; omega
def HP (prog : Program) (w : World) (E : Value → Shared → Prop) (d : PyData) : Prop := ∀ (A : Around) (s : Shared) (v : Value) (Q : Int → Shared → Prop), A.units + dep d < cLine → isAt s.heap d v → Q (hashD w d) { s with toks := s.toks + drw d } → wpAny (model prog w) A (pyHash v) Q E s
mutual
theorem hash_at (E : Value → Shared → Prop) : ∀ (d : PyData), HP prog w E d
  | .int i => fun A s v Q hu hx h => by
    obtain ⟨t, rfl⟩ := hx
    exact wpAny_pyHash_int h
  | .str i => fun A s v Q hu hx h => by
    obtain ⟨t, rfl⟩ := hx
    exact wpAny_pyHash_str h
  | .tuple ds => fun A s v Q hu hx h => by
    have e : dep (.tuple ds) = deps ds + 1 := rfl
    have l := hash_all E ds
    exact hash_tup A E ds (fun d hd s v Q hx h => l d hd A.in1 s v Q (by have := dep_mem hd; show A.units + 1 + dep d < cLine; omega) hx h) s v Q (by omega) hx h
  | .none => fun _ _ _ _ _ hx _ => hx.elim
  | .bool _ => fun _ _ _ _ _ hx _ => hx.elim
  | .list _ => fun _ _ _ _ _ hx _ => hx.elim
  | .dict _ => fun _ _ _ _ _ hx _ => hx.elim
theorem hash_all (E : Value → Shared → Prop) : ∀ (ds : List PyData), ∀ d ∈ ds, HP prog w E d
  | [] => fun d hd => by simp at hd
  | e :: es => fun d hd => by
    have h1 := hash_at E e
    have h2 := hash_all E es
    rcases List.mem_cons.mp hd with z | z
    · rw [z]; exact h1
    · exact h2 d z
end
theorem eq_tup (A : Around) (E : Value → Shared → Prop) (ds es : List PyData) (ih : ∀ d ∈ ds, ∀ (e : PyData) (s : Shared) (u v : Value) (Q : Bool → Shared → Prop) (E : Value → Shared → Prop), isAt s.heap d u → isAt s.heap e v → Q (decide (d = e)) s → wpAny (model prog w) A.in1 (eqBool u v) Q E s)
    (s : Shared) (u v : Value) (Q : Bool → Shared → Prop) (hu : A.units < cLine) (hx : isAt s.heap (.tuple ds) u) (hy : isAt s.heap (.tuple es) v) (h : Q (decide (PyData.tuple ds = PyData.tuple es)) s) : wpAny (model prog w) A (eqBool u v) Q E s := by
  have hx0 := hx
  have hy0 := hy
  obtain ⟨a, rfl, oa, xs, na, hoa, hca, hda, hia⟩ := hx
  obtain ⟨b, rfl, ob, ys, nb, hob, hcb, hdb, hib⟩ := hy
  have hTa : s.TypeIs (.ref a) "tuple" := ⟨oa, hoa, hca⟩
  have hTb : s.TypeIs (.ref b) "tuple" := ⟨ob, hob, hcb⟩
  unfold eqBool
  refine wpAny_holding ?_
  by_cases hab : (Value.ref a == Value.ref b) = true
  · rw [if_pos hab]
    have e : a = b := by have := eq_of_beq hab; injection this
    subst e
    have e2 := isAt_inj hx0 hy0
    rw [decide_eq_true e2] at h
    exact wpAny_bind (wpAny_rule (wpAny_pure h))
  · rw [if_neg hab]
    refine wpAny_bind (wpAny_richCompare_same_room (op := .Eq) hTa hTb F.slot_tuple_eq (wpAny_call_entry F.slot_tuple_eq hTa F.entry_tuple_eq ?_ (F.args_tuple_eq_2 _ _)) hu)
    show wpAny _ _ (isInstance (.ref b) (.type "tuple") >>= _) _ _ s
    refine wpAny_bind (wpAny_isInstance hTb isSubtype_tuple_tuple ?_)
    simp only [Bool.not_true, Bool.false_eq_true, if_false]
    refine wpAny_bind (wpAny_tupleItemsOf hoa hda ?_)
    refine wpAny_bind (wpAny_tupleItemsOf hob hdb ?_)
    refine wpAny_bind ?_
    refine wpAny_forIn_list _ (fun rest r s' => r.1 = none ∧ s' = s ∧ ∃ ds1 ds2 es2 xs2 ys2, ds = ds1 ++ ds2 ∧ rest = List.zip xs2 ys2 ∧ isAts s.heap ds2 xs2 ∧ isAts s.heap es2 ys2 ∧ (ds = es ↔ ds2 = es2) ∧ (xs2.length == ys2.length) = (xs.size == ys.size)) _ ?_ ?_ _ _
      ⟨rfl, rfl, [], ds, es, xs.toList, ys.toList, rfl, rfl, hia, hib, Iff.rfl, by simp⟩
    · rintro ⟨p, q⟩ rest r s' ⟨hr, rfl, ds1, ds2, es2, xs2, ys2, e0, hz, hx', hy', hiff, hlen⟩
      match ds2, xs2, es2, ys2, hx', hy', hz with
      | d :: ds2, x :: xs2, e :: es2, y :: ys2, hx', hy', hz =>
        simp only [List.zip_cons_cons, List.cons.injEq, Prod.mk.injEq] at hz
        obtain ⟨⟨rfl, rfl⟩, rfl⟩ := hz
        refine wpAny_bind (ih d (by rw [e0]; simp) e _ p q _ _ hx'.1 hy'.1 ?_)
        by_cases hde : d = e
        · subst hde
          rw [decide_eq_true rfl]
          simp only [Bool.not_true, Bool.false_eq_true, if_false]
          exact wpAny_pure ⟨rfl, rfl, ds1 ++ [d], ds2, es2, xs2, ys2, by rw [e0]; simp, rfl, hx'.2, hy'.2, by rw [hiff]; simp, by simpa using hlen⟩
        · rw [decide_eq_false hde]
          simp only [Bool.not_false, if_true]
          have nf : ¬ PyData.tuple ds = PyData.tuple es := fun z => hde (by
            injection z with z
            have := hiff.mp z
            injection this)
          rw [decide_eq_false nf] at h
          exact wpAny_bind (wpAny_pure (wpAny_pure (wpAny_pure ⟨_, rfl, (fun z => nomatch z), wpAny_truthy_bool h⟩)))
      | [], [], _, _, _, _, hz => simp at hz
      | _ :: _, _ :: _, [], [], _, _, hz => simp at hz
      | [], _ :: _, _, _, hx', _, _ => exact hx'.elim
      | _ :: _, [], _, _, hx', _, _ => exact hx'.elim
      | _ :: _, _ :: _, [], _ :: _, _, hy', _ => exact hy'.elim
      | _ :: _, _ :: _, _ :: _, [], _, hy', _ => exact hy'.elim
    · rintro ⟨r1, r2⟩ s' ⟨hr, rfl, ds1, ds2, es2, xs2, ys2, e0, hz, hx', hy', hiff, hlen⟩
      simp only at hr
      subst hr
      refine wpAny_pure ?_
      have fin : (xs.size == ys.size) = decide (PyData.tuple ds = PyData.tuple es) := by
        rw [← hlen]
        have l1 := isAts_len hx'
        have l2 := isAts_len hy'
        have z : xs2 = [] ∨ ys2 = [] := by
          cases xs2 with
          | nil => exact .inl rfl
          | cons x xs2 => cases ys2 with
            | nil => exact .inr rfl
            | cons y ys2 => simp at hz
        by_cases q : ds2 = es2
        · have e1 : PyData.tuple ds = PyData.tuple es := by rw [hiff.mpr q]
          rw [decide_eq_true e1, ← l1, ← l2, q]
          simp
        · have e1 : ¬ PyData.tuple ds = PyData.tuple es := fun w => q (hiff.mp (by injection w))
          rw [decide_eq_false e1, beq_eq_false_iff_ne, ← l1, ← l2]
          intro w
          apply q
          rcases z with z | z
          · subst z
            have a1 : ds2 = [] := List.eq_nil_of_length_eq_zero l1
            subst a1
            exact (List.eq_nil_of_length_eq_zero w.symm).symm
          · subst z
            have a1 : es2 = [] := List.eq_nil_of_length_eq_zero l2
            subst a1
            exact List.eq_nil_of_length_eq_zero w
      show ∃ _, _
      refine ⟨_, rfl, (fun z => nomatch z), ?_⟩
      refine wpAny_truthy_bool ?_
      rw [fin]
      exact h
def EP1 (prog : Program) (w : World) (d : PyData) : Prop := ∀ (A : Around) (s : Shared) (e : PyData) (u v : Value) (Q : Bool → Shared → Prop) (E : Value → Shared → Prop), A.units + dep d < cLine → isAt s.heap d u → isAt s.heap e v → Q (decide (d = e)) s → wpAny (model prog w) A (eqBool u v) Q E s
theorem at_tup {h : Heap} {ds : List PyData} {v : Value} (hx : isAt h (.tuple ds) v) : ∃ a its, v = .ref a ∧ h.IsTuple a its := by
  obtain ⟨a, e, o, its, n, h1, h2, h3, _⟩ := hx
  exact ⟨a, its, e, o, h1, h2, n, h3⟩
mutual
theorem eq_at : ∀ (d : PyData), EP1 prog w d
  | .int i => fun A s e u v Q E hu hx hy h => by
    obtain ⟨t, rfl⟩ := hx
    cases e with
    | int j =>
      obtain ⟨t', rfl⟩ := hy
      refine SeqAt.EqAt.int_int i t j t' prog w E Q ?_
      have e : decide (PyData.int i = PyData.int j) = (i == j) := by rw [Bool.eq_iff_iff]; simp
      rw [← e]
      exact h
    | str x =>
      obtain ⟨t', rfl⟩ := hy
      exact SeqAt.EqAt.int_str i t x t' prog w E Q (by rw [decide_eq_false (fun z => by cases z)] at h; exact h)
    | tuple es =>
      obtain ⟨a, its, rfl, hT⟩ := at_tup hy
      exact SeqAt.EqAt.int_tuple i t hT (by omega) prog w E Q (by rw [decide_eq_false (fun z => by cases z)] at h; exact h)
    | _ => exact hy.elim
  | .str x => fun A s e u v Q E hu hx hy h => by
    obtain ⟨t, rfl⟩ := hx
    cases e with
    | int j =>
      obtain ⟨t', rfl⟩ := hy
      exact SeqAt.EqAt.str_int x t j t' prog w E Q (by rw [decide_eq_false (fun z => by cases z)] at h; exact h)
    | str y =>
      obtain ⟨t', rfl⟩ := hy
      refine SeqAt.EqAt.str_str x t y t' prog w E Q ?_
      have e : decide (PyData.str x = PyData.str y) = (x == y) := by rw [Bool.eq_iff_iff]; simp
      rw [← e]
      exact h
    | tuple es =>
      obtain ⟨a, its, rfl, hT⟩ := at_tup hy
      exact SeqAt.EqAt.str_tuple x t hT (by omega) prog w E Q (by rw [decide_eq_false (fun z => by cases z)] at h; exact h)
    | _ => exact hy.elim
  | .tuple ds => fun A s e u v Q E hu hx hy h => by
    have e1 : dep (.tuple ds) = deps ds + 1 := rfl
    have l := eq_all ds
    cases e with
    | int j =>
      obtain ⟨t', rfl⟩ := hy
      obtain ⟨a, its, rfl, hT⟩ := at_tup hx
      exact SeqAt.EqAt.tuple_int j t' hT (by omega) prog w E Q (by rw [decide_eq_false (fun z => by cases z)] at h; exact h)
    | str y =>
      obtain ⟨t', rfl⟩ := hy
      obtain ⟨a, its, rfl, hT⟩ := at_tup hx
      exact SeqAt.EqAt.tuple_str y t' hT (by omega) prog w E Q (by rw [decide_eq_false (fun z => by cases z)] at h; exact h)
    | tuple es => exact eq_tup A E ds es (fun d hd e s u v Q E hx hy h => l d hd A.in1 s e u v Q E (by have := dep_mem hd; show A.units + 1 + dep d < cLine; omega) hx hy h) s u v Q (by omega) hx hy h
    | _ => exact hy.elim
  | .none => fun _ _ _ _ _ _ _ _ hx _ _ => hx.elim
  | .bool _ => fun _ _ _ _ _ _ _ _ hx _ _ => hx.elim
  | .list _ => fun _ _ _ _ _ _ _ _ hx _ _ => hx.elim
  | .dict _ => fun _ _ _ _ _ _ _ _ hx _ _ => hx.elim
theorem eq_all : ∀ (ds : List PyData), ∀ d ∈ ds, EP1 prog w d
  | [] => fun d hd => by simp at hd
  | e :: es => fun d hd => by
    have h1 := eq_at e
    have h2 := eq_all es
    rcases List.mem_cons.mp hd with z | z
    · rw [z]; exact h1
    · exact h2 d z
end
theorem quiet_tup {A : Around} {E : Value → Shared → Prop} {s : Shared} (n : Nat) (ds : List PyData) (ih : ∀ d ∈ ds, ∀ (v : Value) (Q : Bool → Shared → Prop), isAt s.heap d v → Q true s → wpAny (model prog w) A (eqIsQuiet n v) Q E s)
    (v : Value) (Q : Bool → Shared → Prop) (hx : isAt s.heap (.tuple ds) v) (h : Q true s) : wpAny (model prog w) A (eqIsQuiet (n + 1) v) Q E s := by
  obtain ⟨a, rfl, o, its, m, ho, hc, hd, hi⟩ := hx
  have hT : s.TypeIs (.ref a) "tuple" := ⟨o, ho, hc⟩
  unfold eqIsQuiet
  refine wpAny_bind (wpAny_specialOf hT F.slot_tuple_eq.lookup ?_)
  show wpAny _ _ (isInstance (.ref a) (.type "tuple") >>= _) _ _ s
  refine wpAny_bind (wpAny_isInstance hT isSubtype_tuple_tuple ?_)
  simp only [Bool.not_true, Bool.false_eq_true, if_false]
  refine wpAny_bind (wpAny_seqItems ho hd ?_)
  refine wpAny_bind ?_
  show wpAny _ _ (forIn its _ _) _ _ s
  rw [← Array.forIn_toList]
  refine wpAny_forIn_list _ (fun rest r s' => r.1 = none ∧ s' = s ∧ ∃ d1 d2, ds = d1 ++ d2 ∧ isAts s.heap d2 rest) _ ?_ ?_ _ _ ⟨rfl, rfl, [], ds, rfl, hi⟩
  · rintro v rest r s' ⟨hr, rfl, d1, d2, e1, e2⟩
    cases d2 with
    | nil => exact e2.elim
    | cons d d2 =>
      refine wpAny_bind (ih d (by rw [e1]; simp) v _ e2.1 ?_)
      simp only [Bool.not_true, Bool.false_eq_true, if_false]
      exact wpAny_pure ⟨rfl, rfl, d1 ++ [d], d2, by rw [e1]; simp, e2.2⟩
  · rintro ⟨r1, r2⟩ s' ⟨hr, rfl, _⟩
    simp only at hr
    subst hr
    exact wpAny_pure h
def QP (prog : Program) (w : World) (d : PyData) : Prop := ∀ (A : Around) (E : Value → Shared → Prop) (s : Shared) (n : Nat) (v : Value) (Q : Bool → Shared → Prop), dep d ≤ n → isAt s.heap d v → Q true s → wpAny (model prog w) A (eqIsQuiet n v) Q E s
mutual
theorem quiet_at : ∀ (d : PyData), QP prog w d
  | .int i => fun A E s n v Q hn hx h => by
    obtain ⟨t, rfl⟩ := hx
    rw [eqIsQuiet_byValue n rfl]
    exact wpAny_pure h
  | .str i => fun A E s n v Q hn hx h => by
    obtain ⟨t, rfl⟩ := hx
    rw [eqIsQuiet_byValue n rfl]
    exact wpAny_pure h
  | .tuple ds => fun A E s n v Q hn hx h => by
    have e1 : dep (.tuple ds) = deps ds + 1 := rfl
    have l := quiet_all ds
    cases n with
    | zero => omega
    | succ n => exact quiet_tup n ds (fun d hd v Q hx h => l d hd A E s n v Q (by have := dep_mem hd; omega) hx h) v Q hx h
  | .none => fun _ _ _ _ _ _ _ hx _ => hx.elim
  | .bool _ => fun _ _ _ _ _ _ _ hx _ => hx.elim
  | .list _ => fun _ _ _ _ _ _ _ hx _ => hx.elim
  | .dict _ => fun _ _ _ _ _ _ _ hx _ => hx.elim
theorem quiet_all : ∀ (ds : List PyData), ∀ d ∈ ds, QP prog w d
  | [] => fun d hd => by simp at hd
  | e :: es => fun d hd => by
    have h1 := quiet_at e
    have h2 := quiet_all es
    rcases List.mem_cons.mp hd with z | z
    · rw [z]; exact h1
    · exact h2 d z
end
end
/-- tuples as keys -/
noncomputable def dkind (prog : Program) (w : World) : HeapKind prog w PyData where
  is := fun h d a => dep d ≤ 8 ∧ isAt h d (.ref a)
  hash := hashD w
  draws := drw
  room := fun A => A.units + 10 < cLine
  inj := fun hx hy => isAt_inj hx.2 hy.2
  keeps := fun {h h' k a d o es ep} hx ho hd hs => ⟨hx.1, isAt_keep (fun b ob its n e1 e2 => by
    by_cases hb : b = d
    · subst hb
      rw [ho] at e1
      cases e1
      rw [hd] at e2
      cases e2
    · exact (hs.2 b hb).trans e1) hx.2⟩
  pyHash := fun {A E s k a Q} hu hx h => hash_at E k A s _ Q (by have := hx.1; omega) hx.2 h
  eqBool := fun {A E s x y a b Q} hu hx hy h => eq_at x A s y _ _ Q E (by have := hx.1; omega) hx.2 hy.2 h
  quiet := fun {A E s k a Q} hx h => quiet_at k A E s 8 _ Q hx.1 hx.2 h
end Z

namespace Z
open PySem L2 PyProof.Rows

mutual
def kOK : PyData → Bool
  | .int _ => true
  | .str _ => true
  | .tuple ds => kOKs ds
  | _ => false
def kOKs : List PyData → Bool
  | [] => true
  | d :: ds => kOK d && kOKs ds
end
abbrev DEn := PyData × Addr × Value
def DxO (P : Program) (w : World) (a : Addr) (xs : List DEn) : HO := .ext fun h => xs.length ≤ sizeLine ∧ (a == sysModules) = false ∧
  ∃ o es ep, h.get? a = some o ∧ o.ExactDict ∧ o.data = .dict es ep ∧ es.toList = xs.map (entryOfKey (dkind P w)) ∧ (xs.map (·.1)).Nodup
/-- a key as it stands -/
def KyD (K : PySem.W.Frag) (H : Hp) (a : Addr) (d : PyData) : Prop := Dp K H (.ref a) d ∧ kOK d = true ∧ dep d ≤ 8
section
variable {X : Cx} {pins : List (Addr × Obj)} {σ : L2.St} {H : Hp} {s : Shared}
mutual
theorem dp_at (I : Inv X pins σ H s) : ∀ (d : PyData) (v : V) (u : Value), kOK d = true → Dp X.K H v d → RelV v u → isAt s.heap d u
  | .int i, _, _, _, h, r => by cases h; exact r
  | .str i, _, _, _, h, r => by cases h; exact r
  | .tuple ds, _, _, k, h, r => by
    cases h with
    | tup hs ha =>
      cases r
      obtain ⟨its, rv, ⟨o, ho, hc, n, hd⟩, _⟩ := I.tuple hs
      exact ⟨_, rfl, o, _, n, ho, hc, hd, dps_at I ds _ its k ha rv⟩
  | .none, _, _, k, _, _ => by cases k
  | .bool _, _, _, k, _, _ => by cases k
  | .list _, _, _, k, _, _ => by cases k
  | .dict _, _, _, k, _, _ => by cases k
theorem dps_at (I : Inv X pins σ H s) : ∀ (ds : List PyData) (vs : List V) (us : List Value), kOKs ds = true → DpAll X.K H vs ds → Vals vs us → isAts s.heap ds us
  | [], _, _, _, h, r => by cases h; cases r; trivial
  | d :: ds, _, _, k, h, r => by
    cases h with
    | cons h1 h2 =>
      cases r with
      | cons r1 r2 =>
        have k' : (kOK d && kOKs ds) = true := k
        rw [Bool.and_eq_true] at k'
        exact ⟨dp_at I d _ _ k'.1 h1 r1, dps_at I ds _ _ k'.2 h2 r2⟩
end
theorem dx_of {P : Program} {w : World} {h : Heap} {a : Addr} {xs : List DEn} (ok : HOk P w H h) (e : H a = some (DxO P w a xs)) : xs.length ≤ sizeLine ∧ (a == sysModules) = false ∧ ∃ o es ep, h.get? a = some o ∧ o.ExactDict ∧ o.data = .dict es ep ∧ es.toList = xs.map (entryOfKey (dkind P w)) ∧ (xs.map (·.1)).Nodup := (ok a _ e).1
theorem dx_new {P : Program} {w : World} {h : Heap} {a : Addr} {xs : List DEn} (h1 : xs.length ≤ sizeLine) (h2 : (a == sysModules) = false) (h3 : ∃ o es ep, h.get? a = some o ∧ o.ExactDict ∧ o.data = .dict es ep ∧ es.toList = xs.map (entryOfKey (dkind P w)) ∧ (xs.map (·.1)).Nodup) : ObjOk P w H h a (DxO P w a xs) :=
  ⟨⟨h1, h2, h3⟩, let ⟨o, _, _, e, _⟩ := h3; ⟨o, e⟩, fun g1 g2 ⟨p1, p2, o, es, ep, e, r⟩ k => ⟨p1, p2, o, es, ep, k o e, r⟩⟩
theorem dx_H (I : Inv X pins σ H s) {a : Addr} {xs : List DEn} (e : H a = some (DxO X.prog X.w a xs)) (k : ∀ x ∈ xs, KyD X.K H x.2.1 x.1) : xs.length ≤ sizeLine ∧ (a == sysModules) = false ∧ s.heap.DictOfH (dkind X.prog X.w) a xs := by
  obtain ⟨h1, h2, o, es, ep, h3, h4, h5, h6, h7⟩ := dx_of I.hok e
  exact ⟨h1, h2, o, es, ep, h3, h4, h5, h6, fun x hx => ⟨(k x hx).2.2, dp_at I _ _ _ (k x hx).2.1 (k x hx).1 rfl⟩, h7⟩
theorem nd_sub {α : Type} [DecidableEq α] {l1 : List α} : ∀ (_ : l1.Nodup) {l2 : List α} (_ : ∀ x ∈ l1, x ∈ l2), l1.length ≤ l2.length := by
  induction l1 with
  | nil => intro _ _ _; exact Nat.zero_le _
  | cons a l ih =>
    intro nd l2 h
    rw [List.nodup_cons] at nd
    have h1 := ih nd.2 (l2 := l2.erase a) fun x hx => (List.mem_erase_of_ne (fun (e : x = a) => nd.1 (by rw [← e]; exact hx))).mpr (h x (List.mem_cons_of_mem _ hx))
    have h2 : a ∈ l2 := h a List.mem_cons_self
    have h3 := List.length_erase_of_mem h2
    have h4 := List.length_pos_of_mem h2
    rw [List.length_cons]
    omega
/-- what stands at a key -/
noncomputable def atD (xs : List DEn) (d : PyData) : Option Value := (atKey xs d).map (·.2)
def rInX (X : Cx) (neg : Bool) : R2 := fun x y H Q => ∃ p b xs d, y = .ref p ∧ x = .ref b ∧ H p = some (DxO X.prog X.w p xs) ∧ (∀ e ∈ xs, KyD X.K H e.2.1 e.1) ∧ KyD X.K H b d ∧ Q (.bl (if neg then !(atKey xs d).isSome else (atKey xs d).isSome)) H
theorem op_inX (hu : X.A.units + 20 < cLine) : OpR X (compareOp .In) (rInX X false) := by
  intro pins s σ H x y v u Q I rx ry h
  obtain ⟨p, b, xs, d, rfl, rfl, hp, hk, hb, q⟩ := h
  cases rx
  cases ry
  obtain ⟨h1, h2, h3⟩ := dx_H I hp hk
  exact wpAny_in_heap (knd := dkind X.prog X.w) (k := d) (show X.A.units + 1 + 10 < cLine by omega) ⟨hb.2.2, dp_at I _ _ _ hb.2.1 hb.1 rfl⟩ h2 h3 ⟨.bl _, H, I.tok _, rfl, q⟩
theorem op_ninX (hu : X.A.units + 20 < cLine) : OpR X (compareOp .NotIn) (rInX X true) := by
  intro pins s σ H x y v u Q I rx ry h
  obtain ⟨p, b, xs, d, rfl, rfl, hp, hk, hb, q⟩ := h
  cases rx
  cases ry
  obtain ⟨h1, h2, h3⟩ := dx_H I hp hk
  exact wpAny_notIn_heap (knd := dkind X.prog X.w) (k := d) (show X.A.units + 1 + 10 < cLine by omega) ⟨hb.2.2, dp_at I _ _ _ hb.2.1 hb.1 rfl⟩ h2 h3 ⟨.bl _, H, I.tok _, rfl, q⟩
def rIxX (X : Cx) : R2 := fun x y H Q => ∃ p b xs d c u v, x = .ref p ∧ y = .ref b ∧ H p = some (DxO X.prog X.w p xs) ∧ (∀ e ∈ xs, KyD X.K H e.2.1 e.1) ∧ KyD X.K H b d ∧ atKey xs d = some (c, u) ∧ RelV v u ∧ Q v H
theorem ix_X (hu : X.A.units + 20 < cLine) : IxR X (rIxX X) := by
  intro value slice pins s σ H x y v u Q I rx ry h hs
  obtain ⟨p, b, xs, d, c, u', v', rfl, rfl, hp, hk, hb, ha, rv, q⟩ := h
  cases rx
  cases ry
  obtain ⟨h1, h2, h3⟩ := dx_H I hp hk
  refine tail_any h3.typeIs slot_dict_getitem.lookup ?_ hs
  exact wpAny_getItem_heap (knd := dkind X.prog X.w) (k := d) (show X.A.units + 1 + 10 < cLine by omega) ⟨hb.2.2, dp_at I _ _ _ hb.2.1 hb.1 rfl⟩ h3 ha ⟨v', H, I.tok _, rv, q⟩
def rPutX (X : Cx) : TSet := fun o i v H Q => ∃ p b xs d, o = .ref p ∧ i = .ref b ∧ H p = some (DxO X.prog X.w p xs) ∧ (∀ e ∈ xs, KyD X.K H e.2.1 e.1) ∧ KyD X.K H b d ∧ (∃ U : List PyData, U.length < sizeLine ∧ ∀ e ∈ xs, e.1 ∈ U) ∧ ∀ u, RelV v u → Q (upd H p (DxO X.prog X.w p (storedH xs d b u)))
theorem put_X (hu : X.A.units + 20 < cLine) : PSet X (rPutX X) := by
  intro pins s σ H o i v ov iv u Q I ro ri rv h
  obtain ⟨p, b, xs, d, rfl, rfl, hp, hk, hb, ⟨U, hU, hin⟩, q⟩ := h
  cases ro
  cases ri
  have hl : xs.length < sizeLine := by
    obtain ⟨_, _, _, _, _, _, _, _, _, nd⟩ := dx_of I.hok hp
    have := (nd_sub nd (l2 := U) fun x hx => by obtain ⟨e, he, q⟩ := List.mem_map.mp hx; rw [← q]; exact hin e he)
    rw [List.length_map] at this
    omega
  obtain ⟨h1, h2, h3⟩ := dx_H I hp hk
  refine wpAny_setItem_heap (knd := dkind X.prog X.w) (k := d) (hsz := h1) (show X.A.units + 1 + 10 < cLine by omega) ⟨hb.2.2, dp_at I _ _ _ hb.2.1 hb.1 rfl⟩ h3 fun h' hm hs => ?_
  obtain ⟨o, es, ep, e1, e2, e3, e4, _, e6⟩ := hm
  have ln : (storedH xs d b u).length ≤ sizeLine := by
    unfold storedH
    split
    · simpa using h1
    · simp; omega
  refine ⟨_, d_write (ob := DxO X.prog X.w p (storedH xs d b u)) I (by rw [hp]; exact True.intro) hs ⟨o, e1⟩ (dx_new ln h2 ⟨o, es, ep, e1, e2, e3, e4, e6⟩), q u rv⟩
/-- {} -/
theorem pe_newX {pos : Pos} : PE X (.Dict [] [] pos) (fun _ H Q => ∀ p, H p = none → Q (.ref p) (upd H p (DxO X.prog X.w p []))) := by
  refine ⟨fun pins s σ H Q I h => ?_⟩
  refine wpAny_Dict_empty ⟨.ref s.heap.objs.size, _, I.laid (a := s.heap.objs.size) (o := DxO X.prog X.w s.heap.objs.size []) (t' := s.toks) (fun _ _ q => Heap.get?_push_of_some _ q) (Nat.le_refl _) ?_, rfl, h _ (I.hok.fresh (Nat.le_refl _))⟩
  refine dx_new (Nat.zero_le _) ?_ ⟨_, #[], 0, Heap.get?_push_size _ rfl, ⟨rfl, rfl, rfl⟩, rfl, rfl, List.nodup_nil⟩
  exact beq_eq_false_iff_ne.mpr (Nat.ne_of_gt I.big)
end
end Z

namespace Z
open PySem L2 PyProof.Rows

section
variable {X : Cx} {e a b c : Expr} {es : List Expr} {st : Stmt} {rest body : List Stmt} {s s' s1 s2 s3 : S} {r : SD} {rs : List SD} {pos p : Pos} {R : Bool → S → Prop} {k : Bool} {P : Po} {M : S → Prop} {ds : List PyData} {x y : PyData} {i j : Int}
def OLe (P Q : Own) : Prop := ∀ K F H v fp, P.holds K F H v fp → Q.holds K F H v fp
theorem set_self {α : Type} {l : List α} {j : Nat} {a : α} (h : l[j]? = some a) : l.set j a = l := by
  obtain ⟨hj, e⟩ := List.getElem?_eq_some_iff.mp h
  subst e
  exact List.set_getElem_self hj

/-- a dict of answers: each told answer is right -/
def OM (pr : Program) (w : World) (f : PyData → PyData → Prop) : Own where
  holds := fun K F H v fp => ∃ p xs, v = .ref p ∧ fp = [p] ∧ H p = some (DxO pr w p xs) ∧ ∀ e ∈ xs, KyD K F e.2.1 e.1 ∧ ∃ vv dv, RelV vv e.2.2 ∧ Dp K F vv dv ∧ f e.1 dv
  stay := fun ⟨p, xs, e1, e2, e3, e4⟩ e k => ⟨p, xs, e1, e2, k p (by rw [e2]; simp) _ e3, fun z hz => let ⟨⟨a1, a2, a3⟩, vv, dv, a4, a5, a6⟩ := e4 z hz; ⟨⟨dpUp e _ _ a1, a2, a3⟩, vv, dv, a4, dpUp e _ _ a5, a6⟩⟩
/-- .. that knows the key d -/
def OMk (pr : Program) (w : World) (f : PyData → PyData → Prop) (d : PyData) : Own where
  holds := fun K F H v fp => ∃ p xs, v = .ref p ∧ fp = [p] ∧ H p = some (DxO pr w p xs) ∧ (atKey xs d).isSome = true ∧ ∀ e ∈ xs, KyD K F e.2.1 e.1 ∧ ∃ vv dv, RelV vv e.2.2 ∧ Dp K F vv dv ∧ f e.1 dv
  stay := fun ⟨p, xs, e1, e2, e3, e0, e4⟩ e k => ⟨p, xs, e1, e2, k p (by rw [e2]; simp) _ e3, e0, fun z hz => let ⟨⟨a1, a2, a3⟩, vv, dv, a4, a5, a6⟩ := e4 z hz; ⟨⟨dpUp e _ _ a1, a2, a3⟩, vv, dv, a4, dpUp e _ _ a5, a6⟩⟩
theorem OMk.le {pr : Program} {w : World} {f : PyData → PyData → Prop} {d : PyData} : OLe (OMk pr w f d) (OM pr w f) := fun K F H v fp ⟨p, xs, e1, e2, e3, _, e4⟩ => ⟨p, xs, e1, e2, e3, e4⟩
theorem KyD.up {K : PySem.W.Frag} {F H : Hp} {a : Addr} {d : PyData} (e : Ext F H) (h : KyD K F a d) : KyD K H a d := ⟨dpUp e _ _ h.1, h.2.1, h.2.2⟩
variable {f : PyData → PyData → Prop} {o : Nat}
end
end Z

namespace Z
open PySem PySem.W PySem.SeqAt PyProof.Rows PySem.Calls

section
variable {prog : Program} {w : World} {A : Around} {E : Value → Shared → Prop} {s : Shared}
def SrtK (ds : List PyData) : Prop := Sortable ds ∨ ∀ d ∈ ds, ∃ xs, d = .tuple xs
theorem EachIs.right {α β : Type} {R : α → β → Prop} : ∀ {as : List α} {bs : List β}, EachIs R as bs → ∀ b ∈ bs, ∃ a ∈ as, R a b
  | _, _, .nil, _, h => by cases h
  | _, _, .cons (a := a) r t, b, h => by
    rcases List.mem_cons.mp h with rfl | h
    · exact ⟨a, List.mem_cons_self, r⟩
    · obtain ⟨a', h1, h2⟩ := EachIs.right t b h
      exact ⟨a', List.mem_cons_of_mem _ h1, h2⟩
end
section
variable {β : Type} {prog : Program} {w : World} {A : Around} {E : Value → Shared → Prop} {s : Shared} {vs : List Value} {bs : List β} {R : Value → β → Prop} {enc : β → PyData}
end
end Z

namespace Z
open PySem L2 PyProof.Rows

def tyN : PyData → String
  | .none => "NoneType"
  | .bool _ => "bool"
  | .int _ => "int"
  | .str _ => "str"
  | .list _ => "list"
  | .tuple _ => "tuple"
  | .dict _ => "dict"
theorem sqL_ty {K : PySem.W.Frag} {H : Hp} {a : Addr} {xs : List V} (h : SqL K H a xs) : TyX K H (.ref a) (.type "list") := by
  rcases h with (h | ⟨o, h⟩) | ⟨o, its, n, hk, hc, _⟩
  · exact .base (.lst h)
  · exact .base (.frz h)
  · exact .kList hk hc
theorem sqT_ty {K : PySem.W.Frag} {H : Hp} {a : Addr} {xs : List V} (h : SqT K H a xs) : TyX K H (.ref a) (.type "tuple") := by
  rcases h with (h | ⟨o, h⟩) | ⟨o, its, n, hk, hc, _⟩
  · exact .base (.tup h)
  · exact .fTuple h
  · exact .kTuple hk hc
theorem dp_ty {K : PySem.W.Frag} {H : Hp} {v : V} {x : PyData} (h : Dp K H v x) : TyX K H v (.type (tyN x)) := by
  cases h with
  | non => exact .base .non
  | bl b => exact .base (.bl b)
  | int i => exact .base (.int i)
  | str y => exact .base (.str y)
  | lst hs ha => exact sqL_ty hs
  | tup hs ha => exact sqT_ty hs
section
variable {X : Cx} {e a b c : Expr} {es : List Expr} {s s' s1 s2 s3 : S} {r r1 r2 : SD} {rs : List SD} {pos p q : Pos} {k : Bool} {x y z : PyData} {ds : List PyData} {T : Str} {n : String}
def isTup : PyData → Bool | .tuple _ => true | _ => false
def isLst : PyData → Bool | .list _ => true | _ => false
def isBl : PyData → Bool | .bool _ => true | _ => false
def isInt : PyData → Bool | .bool _ => true | .int _ => true | _ => false
def isStr : PyData → Bool | .str _ => true | _ => false
theorem kit_tup (x : PyData) : kitB (tyN x) "tuple" = some (isTup x) := by
  have h : kitB "NoneType" "tuple" = some (isTup .none) ∧ kitB "bool" "tuple" = some (isTup (.bool true)) ∧ kitB "int" "tuple" = some (isTup (.int 0)) ∧ kitB "str" "tuple" = some (isTup (.str (Str.ofString ""))) ∧ kitB "list" "tuple" = some (isTup (.list [])) ∧ kitB "tuple" "tuple" = some (isTup (.tuple [])) ∧ kitB "dict" "tuple" = some (isTup (.dict [])) := by decide +kernel
  obtain ⟨h1, h2, h3, h4, h5, h6, h7⟩ := h
  cases x <;> first | exact h1 | exact h2 | exact h3 | exact h4 | exact h5 | exact h6 | exact h7
theorem kit_lst (x : PyData) : kitB (tyN x) "list" = some (isLst x) := by
  have h : kitB "NoneType" "list" = some (isLst .none) ∧ kitB "bool" "list" = some (isLst (.bool true)) ∧ kitB "int" "list" = some (isLst (.int 0)) ∧ kitB "str" "list" = some (isLst (.str (Str.ofString ""))) ∧ kitB "list" "list" = some (isLst (.list [])) ∧ kitB "tuple" "list" = some (isLst (.tuple [])) ∧ kitB "dict" "list" = some (isLst (.dict [])) := by decide +kernel
  obtain ⟨h1, h2, h3, h4, h5, h6, h7⟩ := h
  cases x <;> first | exact h1 | exact h2 | exact h3 | exact h4 | exact h5 | exact h6 | exact h7
theorem kit_bl (x : PyData) : kitB (tyN x) "bool" = some (isBl x) := by
  have h : kitB "NoneType" "bool" = some (isBl .none) ∧ kitB "bool" "bool" = some (isBl (.bool true)) ∧ kitB "int" "bool" = some (isBl (.int 0)) ∧ kitB "str" "bool" = some (isBl (.str (Str.ofString ""))) ∧ kitB "list" "bool" = some (isBl (.list [])) ∧ kitB "tuple" "bool" = some (isBl (.tuple [])) ∧ kitB "dict" "bool" = some (isBl (.dict [])) := by decide +kernel
  obtain ⟨h1, h2, h3, h4, h5, h6, h7⟩ := h
  cases x <;> first | exact h1 | exact h2 | exact h3 | exact h4 | exact h5 | exact h6 | exact h7
theorem kit_int (x : PyData) : kitB (tyN x) "int" = some (isInt x) := by
  have h : kitB "NoneType" "int" = some (isInt .none) ∧ kitB "bool" "int" = some (isInt (.bool true)) ∧ kitB "int" "int" = some (isInt (.int 0)) ∧ kitB "str" "int" = some (isInt (.str (Str.ofString ""))) ∧ kitB "list" "int" = some (isInt (.list [])) ∧ kitB "tuple" "int" = some (isInt (.tuple [])) ∧ kitB "dict" "int" = some (isInt (.dict [])) := by decide +kernel
  obtain ⟨h1, h2, h3, h4, h5, h6, h7⟩ := h
  cases x <;> first | exact h1 | exact h2 | exact h3 | exact h4 | exact h5 | exact h6 | exact h7
theorem kit_str (x : PyData) : kitB (tyN x) "str" = some (isStr x) := by
  have h : kitB "NoneType" "str" = some (isStr .none) ∧ kitB "bool" "str" = some (isStr (.bool true)) ∧ kitB "int" "str" = some (isStr (.int 0)) ∧ kitB "str" "str" = some (isStr (.str (Str.ofString ""))) ∧ kitB "list" "str" = some (isStr (.list [])) ∧ kitB "tuple" "str" = some (isStr (.tuple [])) ∧ kitB "dict" "str" = some (isStr (.dict [])) := by decide +kernel
  obtain ⟨h1, h2, h3, h4, h5, h6, h7⟩ := h
  cases x <;> first | exact h1 | exact h2 | exact h3 | exact h4 | exact h5 | exact h6 | exact h7

def rInZ (K : PySem.W.Frag) (u : Nat) (neg : Bool) : R2 := fun x y H Q => ∃ d c ds, Dp K H x d ∧ Dp K H y c ∧ (c = .list ds ∨ c = .tuple ds) ∧ PyData.plainAll ds = true ∧ d.plain = true ∧ u + 1 + min (PyData.depthAll ds) d.depth < cLine ∧ Q (.bl (if neg then !(ds.any fun z => PyData.eqv z d) else ds.any fun z => PyData.eqv z d)) H
theorem op_inZ : OpR X (compareOp .In) (rInZ X.K X.A.units false) := by
  intro pins s σ H x y v u Q I rx ry h
  obtain ⟨d, c, ds, hd, hc, e, p1, p2, hu, q⟩ := h
  obtain ⟨as, r1⟩ := Dp.reads I d x v hd rx
  obtain ⟨bs, r2⟩ := Dp.reads I c y u hc ry
  rcases e with e | e
  · subst e
    exact SeqAt.in_list_data r2 r1 p1 p2 hu ⟨.bl _, H, I, rfl, q⟩
  · subst e
    exact SeqAt.in_tuple_data r2 r1 p1 p2 hu ⟨.bl _, H, I, rfl, q⟩
theorem op_ninZ : OpR X (compareOp .NotIn) (rInZ X.K X.A.units true) := by
  intro pins s σ H x y v u Q I rx ry h
  obtain ⟨d, c, ds, hd, hc, e, p1, p2, hu, q⟩ := h
  obtain ⟨as, r1⟩ := Dp.reads I d x v hd rx
  obtain ⟨bs, r2⟩ := Dp.reads I c y u hc ry
  rcases e with e | e
  · subst e
    exact SeqAt.notIn_list_data r2 r1 p1 p2 hu ⟨.bl _, H, I, rfl, q⟩
  · subst e
    exact SeqAt.notIn_tuple_data r2 r1 p1 p2 hu ⟨.bl _, H, I, rfl, q⟩
def rEqZ (K : PySem.W.Frag) (u : Nat) (neg : Bool) : R2 := fun x y H Q => ∃ d c, Dp K H x d ∧ Dp K H y c ∧ d.plain = true ∧ c.plain = true ∧ u + min d.depth c.depth < cLine ∧ Q (.bl (if neg then !PyData.eqv d c else PyData.eqv d c)) H
theorem op_eqZ : OpR X (compareOp .Eq) (rEqZ X.K X.A.units false) := by
  intro pins s σ H x y v u Q I rx ry h
  obtain ⟨d, c, hd, hc, p1, p2, hu, q⟩ := h
  obtain ⟨as, r1⟩ := Dp.reads I d x v hd rx
  obtain ⟨bs, r2⟩ := Dp.reads I c y u hc ry
  exact SeqAt.eq_plain r1 r2 p1 p2 hu ⟨.bl _, H, I, rfl, q⟩
theorem op_neZ : OpR X (compareOp .NotEq) (rEqZ X.K X.A.units true) := by
  intro pins s σ H x y v u Q I rx ry h
  obtain ⟨d, c, hd, hc, p1, p2, hu, q⟩ := h
  obtain ⟨as, r1⟩ := Dp.reads I d x v hd rx
  obtain ⟨bs, r2⟩ := Dp.reads I c y u hc ry
  exact SeqAt.ne_plain r1 r2 p1 p2 hu ⟨.bl _, H, I, rfl, q⟩
def srt (ds : List PyData) : List PyData := ds.mergeSort (PySem.W.dataLe false id)
theorem srt_perm (ds : List PyData) : (srt ds).Perm ds := List.mergeSort_perm _ _
end
end Z

namespace Z
open PySem L2 PyProof.Rows

section
variable {X : Cx} {e a b c : Expr} {es : List Expr} {st : Stmt} {rest body : List Stmt} {s s' s1 s2 s3 : S} {r : SD} {rs : List SD} {pos p : Pos} {P : Po} {x y : PyData} {i j : Int} {o n : Nat} {O O' : Own}
structure Bx where
  cells : List Int
  x : Int
  y : Int
end
end Z

namespace Z
open PySem L2 PyProof.Rows
def finB (cells : List Int) (x y : Int) : Int × Bx :=
  let first := (y * 48271 + 17) % 2147483629
  let second := (first * 69621 + 5) % 2147483587
  let z := (second * 40692 + 3) % 2147483563
  (first * 4611686014132420609 + second * 2147483647 + z, ⟨cells, x, z⟩)
def cellB (c : Int) : Int := if decide (0 ≤ c) = true then 2 * c else -2 * c - 1
def loadB (b : Bx) : Int × Bx := match b.cells with
  | c :: r => if decide (1000000000000000000 ≤ cellB c) = true then (cellB c, ⟨r, b.x, b.y⟩) else finB r b.x ((b.y * 69621 + cellB c * 48271 + 11) % 2147483647)
  | [] => finB [] b.x b.y
def drawB (b : Bx) (m : Int) : Int × Bx :=
  let b' : Bx := if b.x < m then ⟨(loadB b).2.cells, (loadB b).1, (loadB b).2.y⟩ else b
  (b'.x % m, ⟨b'.cells, b'.x / m, b'.y⟩)
structure BOK (b : Bx) : Prop where
  x : 0 ≤ b.x
  y : 0 ≤ b.y ∧ b.y < 2 ^ 31
  l : b.cells.length ≤ 63
theorem cell_pos (c : Int) : 0 ≤ cellB c := by unfold cellB; split <;> simp_all <;> omega
theorem fin_ok {cells : List Int} {x y : Int} (hx : 0 ≤ x) (hy : 0 ≤ y) (hl : cells.length ≤ 63) : 0 ≤ (finB cells x y).1 ∧ BOK (finB cells x y).2 := by
  unfold finB
  dsimp only
  generalize h1 : (y * 48271 + 17) % 2147483629 = f
  generalize h2 : (f * 69621 + 5) % 2147483587 = g
  generalize h3 : (g * 40692 + 3) % 2147483563 = z
  have z1 : 0 ≤ z := by omega
  have z2 : z < 2 ^ 31 := by omega
  exact ⟨by omega, hx, ⟨z1, z2⟩, hl⟩
theorem load_ok {b : Bx} (h : BOK b) : 0 ≤ (loadB b).1 ∧ BOK (loadB b).2 := by
  obtain ⟨hx, ⟨y1, y2⟩, hl⟩ := h
  unfold loadB
  cases hc : b.cells with
  | nil => exact fin_ok hx y1 (by simp)
  | cons c r =>
    rw [hc] at hl
    simp at hl
    have hp := cell_pos c
    dsimp only
    split
    · exact ⟨hp, hx, ⟨y1, y2⟩, by show r.length ≤ 63; omega⟩
    · exact fin_ok hx (by omega) (by omega)
theorem draw_ok {b : Bx} {m : Int} (h : BOK b) (hm : 0 < m) : (0 ≤ (drawB b m).1 ∧ (drawB b m).1 < m) ∧ BOK (drawB b m).2 := by
  unfold drawB
  dsimp only
  refine ⟨⟨Int.emod_nonneg _ (by omega), Int.emod_lt_of_pos _ hm⟩, ?_⟩
  split
  · obtain ⟨h1, h2⟩ := load_ok h
    exact ⟨Int.ediv_nonneg h1 (by omega), h2.y, h2.l⟩
  · exact ⟨Int.ediv_nonneg h.x (by omega), h.y, h.l⟩
end Z

namespace Z
open PySem L2 PyProof.Rows
section
variable {X : Cx} {e a b c : Expr} {es : List Expr} {s s1 s2 s3 : S} {r : SD} {rs : List SD} {pos p : Pos} {x : Str} {k j n : Nat} {pre : Pre} {rel : Rel} {ds as bs : List PyData} {zd : PyData} {O : Own}
end
end Z

namespace Z
open PySem L2 PyProof.Rows
section
variable {X : Cx} {tg iter elt : Expr} {ifs : List Expr} {s s1 : S} {ds : List PyData} {pos : Pos}
end

mutual
def same : PyData → PyData → Bool
  | .tuple xs, .tuple ys => xs.length == ys.length && sames xs ys
  | .list xs, .list ys => xs.length == ys.length && sames xs ys
  | .bool a, .bool b => a == b
  | .int a, .int b => a == b
  | .str a, .str b => a == b
  | .none, .none => true
  | _, _ => false
def sames : List PyData → List PyData → Bool
  | x :: xs, y :: ys => same x y && sames xs ys
  | _, _ => true
end
end Z

namespace Z
open PySem L2 PyProof.Rows
section
variable {X : Cx} {e a b c tg iter elt : Expr} {es ifs : List Expr} {st : Stmt} {rest body : List Stmt} {s s' s1 s2 s3 : S} {r r1 r2 r3 : SD} {rs : List SD} {pos p : Pos} {P : Po} {ds : List PyData}
theorem vrs3 {ρ : List V} {us : List V} (h : VRs [r1, r2, r3] ρ us) : ∃ u v w, us = [u, v, w] ∧ VR r1 ρ u ∧ VR r2 ρ v ∧ VR r3 ρ w := by
  obtain ⟨h1, h2⟩ := h
  match us, h1 with
  | [u, v, w], _ => exact ⟨u, v, w, rfl, h2 0 _ u rfl rfl, h2 1 _ v rfl rfl, h2 2 _ w rfl rfl⟩
end
end Z

namespace HT
open PySem PySem.Spec PyProof.Rows
section
variable {prog : Program} {w : World} {A : Around} {E : Value → Shared → Prop} {s : Shared}
end
end HT
namespace Z
open PySem L2 PyProof.Rows
section
variable {X : Cx} {a : Expr} {s s1 : S} {r : SD} {ds : List PyData}
variable {b : Expr} {s2 : S} {i j : Int} {pos : Pos}
end
end Z

namespace Z
open PySem L2 PyProof.Rows
section
variable {X : Cx} {x1 x2 e : Expr} {s s1 s' : S} {p pos : Pos} {o k j : Nat} {b b' : Bx} {m d : Int} {kk kk' : Bool}
theorem ZE.i {i i' : Int} (h : ZE X e s (.d (.int i)) s') (q : i = i') : ZE X e s (.d (.int i')) s' := by subst q; exact h
theorem ZE.x {i i' : PyData} (h : ZE X e s (.d i) s') (q : i = i') : ZE X e s (.d i') s' := by subst q; exact h
end
end Z

namespace Z
open PySem L2 PyProof.Rows
section
variable {P : Program} {w : World} {K : PySem.W.Frag} {mg : Str → Option Value} {base : Heap} {x : Str} {st : Stmt} {ps N : List Str} {k : Nat}
theorem fn_dfn {f : Addr} {od an : Option Addr} {sl : Array (Option Value)} {oc kV dc pm cd ct : Value} {h : Heap} (X : K.In h) (G : h.Ns PySem.mainGlobals mg)
    (a : PySem.W.nsIn K PySem.mainGlobals x = some (some (.ref f))) (l : K.lookup f = some ⟨oc, od, .func (PySem.W.fnOf x x (defArgs st) (defBody st) (defScope st) .none kV dc pm an cd ct), sl⟩) (c : PySem.W.codeIn K cd x = true) (q : PySem.W.keepIn K (.ref f) = true)
    (b : ∀ (kV doc pm : Value) (an : Option Addr) (cdv ct : Value) (us : List Value), us.length = ps.length → bindArgs (PySem.W.fnOf x x (defArgs st) (defBody st) (defScope st) .none kV doc pm an cdv ct) ⟨us, []⟩ = pure (ps.zip us)) : Dfn K mg x st ps := by
  have F := fun_mk (st := st) l c q
  exact ⟨f, _, F, PySem.W.mg_of X G a, F.binds b⟩
theorem bl_of {F H : Hp} {v : V} {T : List En} {b : Bool} (h : OK K ((IT.d (.bool b), some v) :: T) H) : v = .bl b := by
  obtain ⟨F, f⟩ := h.fz
  obtain ⟨u, e, d⟩ := f.at List.mem_cons_self
  cases e
  cases d
  rfl
def aSc0 : List Int → List IT := fun ns => [.d (.list (ns.map .int))]
theorem dps_of_ints (K : PySem.W.Frag) (F : Hp) : ∀ ns : List Int, DpAll K F (ns.map V.int) (ns.map .int)
  | [] => .nil
  | n :: ns => .cons (.int n) (dps_of_ints K F ns)
/-- the law's head -/
def spL (K : PySem.W.Frag) : Sp := spZ K (preOf aSc0 (fun ns => ns.length ≤ 63)) (relOf aSc0 (fun ns => ns.length ≤ 63) (fun _ => .d (.bool true)) (fun _ => []))
theorem head_ok {H : Hp} {a : Addr} {ns : List Int} (hl : ns.length ≤ 63) (hS : SqL K H a (ns.map V.int)) : spL K [.ref a] H (fun v _ => v = .bl true) fun _ _ _ => False := by
  refine ⟨aSc0 ns, [], ⟨ns, hl, rfl⟩, rfl, ⟨H, [((.d (.list (ns.map .int)), some (.ref a)), [])], rfl, Ext.refl H, fun x hx => ?_, by simp [fpsOf], fun b hb => by simp [fpsOf] at hb⟩, fun z Os v H' hz ok => ?_⟩
  · have e : x = ((.d (.list (ns.map .int)), some (.ref a)), []) := by simpa using hx
    subst e
    exact ⟨rfl, _, rfl, .lst hS (dps_of_ints K H ns)⟩
  · obtain ⟨e, _⟩ := hz ns hl rfl
    subst e
    exact bl_of (F := H) ok
/-- a law by its Cal -/
theorem law_fn {f : Addr} {fd : FuncData} (F : Fun K x x st f fd) (hm : mg x = some (.ref f)) (S : FnScope N ["script"] (defScope st))
    (body : ∀ (f : Addr) (cdv : Value) (Ar : Around) (outer : List Env) (s : Shared) (H : Hp) (E : XK) (ns : List Int), ns.length ≤ 63 → Room k (Ar.deeper (envOfC x (defScope st) s.heap.objs.size f cdv)) →
      ZSs (cxOf CX0 P w K mg base N x (defScope st) f cdv Ar outer s H E).nox (defBody st) (inSt (aSc0 ns) (N.length - 1)) (poS 0 (.d (.bool true)) [])) : FnOk P w K mg base CX0 (k + 1) f fd ["script"] (spL K) := by
  refine F.ok S (fun vs H Q E h => ?_) (fun cdv A outer s H vs Q E hr h => ?_)
  · obtain ⟨ds, T, ⟨ns, _, e⟩, b, _⟩ := h
    subst e
    rw [← b]
    rfl
  · obtain ⟨ds, T, ⟨ns, hn, e⟩, b, c, d⟩ := h
    subst e
    refine run_body (X := (cxOf CX0 P w K mg base N x (defScope st) f cdv A outer s H E).nox) (N := N) rfl b c d ?_
    have e : vs.length = 1 := by rw [← b]; rfl
    rw [e]
    refine PSs.wk (body f cdv A outer s H E ns hn hr) rfl (fun t ⟨h1, h2⟩ => ?_) (fun r t h => ?_) (fun _ z => z) (fun _ z => z)
    · cases h1
    · cases r with
      | un => exact h
      | d v =>
        obtain ⟨h1, h2⟩ := h
        intro z hz e
        exact ⟨h1.symm, h2⟩
      | r j =>
        obtain ⟨hb, h, h2⟩ := h
        rcases h with ⟨O, hO, h1⟩ | ⟨es, hO, h1⟩ <;> cases h1
end
end Z

namespace Z
open PySem L2 PyProof.Rows

section
variable {P : Program} {w : World}
/-- a key of a set, as it stands -/
def KH (h : Heap) (a : Addr) (d : PyData) : Prop := isAt h d (.ref a) ∧ dep d ≤ 8
theorem KH.one {h : Heap} {a : Addr} {d e : PyData} (x : KH h a d) (y : KH h a e) : d = e := isAt_inj x.1 y.1
theorem KH.but {h h' : Heap} {a c : Addr} {d : PyData} {o : Obj} {es : Array (Int × Value)} {ep : Nat} {t : SetTable} (x : KH h a d) (ho : h.get? c = some o) (hd : o.data = .set es ep t) (sb : Heap.SameBut c h h') : KH h' a d :=
  ⟨isAt_keep (fun b u its n e1 e2 => by
    by_cases eb : b = c
    · subst eb
      rw [ho] at e1
      cases e1
      rw [hd] at e2
      cases e2
    · exact (sb.2 b eb).trans e1) x.1, x.2⟩
abbrev SEn := Addr × PyData
def rowsD (w : World) (L : List SEn) : List (Int × Value) := L.map fun p => (hashD w p.2, Value.ref p.1)
def hsD (w : World) (L : List SEn) : List Int := L.map fun p => hashD w p.2
structure SR (w : World) (h : Heap) (a : Addr) (L : List SEn) (es : Array (Int × Value)) (ep : Nat) (t : SetTable) : Prop where
  ob : ∃ o, h.get? a = some o ∧ o.ExactSet ∧ o.data = .set es ep t
  rows : es.toList = rowsD w L
  tab : TabOk t (hsD w L)
  nd : (L.map (·.2)).Nodup
  keys : ∀ p ∈ L, KH h p.1 p.2
  led : w.params.followText "set-order" = true ∨ t.led = true
  room : L.length * 5 < t.mask * 3
  few : L.length < 64
section
variable {A : Around} {E : Value → Shared → Prop} {s : Shared} {a : Addr} {L : List SEn} {es : Array (Int × Value)} {ep : Nat} {t : SetTable}
theorem SR.at (R : SR w s.heap a L es ep t) {i : Nat} {p : SEn} (h : L[i]? = some p) : es[i]? = some (hashD w p.2, Value.ref p.1) := by
  rw [← Array.getElem?_toList, R.rows]
  simp [rowsD, h]
end
end
end Z

namespace Z
open PySem L2 PyProof.Rows

/-- what the first i give -/
def Gt (ks : List SEn) (i : Nat) (L : List SEn) : Prop := (∀ p ∈ L, p ∈ ks.take i) ∧ (∀ p ∈ ks.take i, p.2 ∈ L.map (·.2)) ∧ L.length ≤ i
theorem tk1 {α : Type} {l : List α} {i : Nat} {x : α} (h : l[i]? = some x) : l.take (i + 1) = l.take i ++ [x] := by rw [List.take_add_one, h]; rfl
theorem Gt.there {ks L : List SEn} {i : Nat} {x : SEn} (g : Gt ks i L) (h : ks[i]? = some x) (m : x.2 ∈ L.map (·.2)) : Gt ks (i + 1) L := by
  obtain ⟨g1, g2, g3⟩ := g
  unfold Gt
  rw [tk1 h]
  refine ⟨fun p hp => List.mem_append_left _ (g1 p hp), fun p hp => ?_, by omega⟩
  rcases List.mem_append.mp hp with z | z
  · exact g2 p z
  · have : p = x := by simpa using z
    rw [this]; exact m
theorem Gt.one {ks L L' : List SEn} {i : Nat} {x : SEn} (g : Gt ks i L) (h : ks[i]? = some x) (pm : L'.Perm (x :: L)) : Gt ks (i + 1) L' := by
  obtain ⟨g1, g2, g3⟩ := g
  unfold Gt
  rw [tk1 h]
  refine ⟨fun p hp => ?_, fun p hp => ?_, by rw [pm.length_eq, List.length_cons]; omega⟩
  · rcases List.mem_cons.mp (pm.mem_iff.mp hp) with e | z
    · exact List.mem_append_right _ (by rw [e]; simp)
    · exact List.mem_append_left _ (g1 p z)
  · refine (pm.map (·.2)).mem_iff.mpr ?_
    rw [List.map_cons]
    rcases List.mem_append.mp hp with z | z
    · exact List.mem_cons_of_mem _ (g2 p z)
    · have : p = x := by simpa using z
      rw [this]; exact List.mem_cons_self
def set0 (w : World) : Obj := { cls := .type "set", dict := none, data := .set #[] 0 (.fresh 0 0 (!w.params.followText "set-order")) }
section
variable {P : Program} {w : World} {A : Around} {E : Value → Shared → Prop} {s : Shared}
theorem SR.kept {h h' : Heap} {a : Addr} {L : List SEn} {es : Array (Int × Value)} {ep : Nat} {t : SetTable} (R : SR w h a L es ep t) (ka : ∀ o, h.get? a = some o → h'.get? a = some o) (kk : ∀ p ∈ L, KH h' p.1 p.2) : SR w h' a L es ep t := by
  obtain ⟨o, e, r⟩ := R.ob
  exact ⟨⟨o, ka o e, r⟩, R.rows, R.tab, R.nd, kk, R.led, R.room, R.few⟩
end
end Z

namespace Z
open PySem L2 PyProof.Rows

mutual
theorem tok_inj : ∀ (x y : PyData) (l m : List (Int ⊕ List Nat)), PySem.W.alike x y = true → PySem.W.keyToks x ++ l = PySem.W.keyToks y ++ m → x = y ∧ l = m
  | .none, .none, l, m, _, h => ⟨rfl, by simpa [PySem.W.keyToks] using h⟩
  | .bool a, .bool b, l, m, _, h => by
    cases a <;> cases b <;> simp [PySem.W.keyToks] at h ⊢ <;> exact h
  | .int a, .int b, l, m, _, h => by
    simp [PySem.W.keyToks] at h
    exact ⟨by rw [h.1], h.2⟩
  | .str a, .str b, l, m, _, h => by
    simp only [PySem.W.keyToks, List.singleton_append, List.cons.injEq, Sum.inr.injEq] at h
    exact ⟨by rw [PySem.W.str_of_cps h.1], h.2⟩
  | .list xs, .list ys, l, m, al, h => by
    have := toks_inj xs ys l m (by simpa [PySem.W.alike] using al) (by simpa [PySem.W.keyToks] using h)
    exact ⟨by rw [this.1], this.2⟩
  | .tuple xs, .tuple ys, l, m, al, h => by
    have := toks_inj xs ys l m (by simpa [PySem.W.alike] using al) (by simpa [PySem.W.keyToks] using h)
    exact ⟨by rw [this.1], this.2⟩
  | .none, .bool _, _, _, al, _ | .none, .int _, _, _, al, _ | .none, .str _, _, _, al, _ | .none, .list _, _, _, al, _ | .none, .tuple _, _, _, al, _ | .none, .dict _, _, _, al, _
  | .bool _, .none, _, _, al, _ | .bool _, .int _, _, _, al, _ | .bool _, .str _, _, _, al, _ | .bool _, .list _, _, _, al, _ | .bool _, .tuple _, _, _, al, _ | .bool _, .dict _, _, _, al, _
  | .int _, .none, _, _, al, _ | .int _, .bool _, _, _, al, _ | .int _, .str _, _, _, al, _ | .int _, .list _, _, _, al, _ | .int _, .tuple _, _, _, al, _ | .int _, .dict _, _, _, al, _
  | .str _, .none, _, _, al, _ | .str _, .bool _, _, _, al, _ | .str _, .int _, _, _, al, _ | .str _, .list _, _, _, al, _ | .str _, .tuple _, _, _, al, _ | .str _, .dict _, _, _, al, _
  | .list _, .none, _, _, al, _ | .list _, .bool _, _, _, al, _ | .list _, .int _, _, _, al, _ | .list _, .str _, _, _, al, _ | .list _, .tuple _, _, _, al, _ | .list _, .dict _, _, _, al, _
  | .tuple _, .none, _, _, al, _ | .tuple _, .bool _, _, _, al, _ | .tuple _, .int _, _, _, al, _ | .tuple _, .str _, _, _, al, _ | .tuple _, .list _, _, _, al, _ | .tuple _, .dict _, _, _, al, _
  | .dict _, .none, _, _, al, _ | .dict _, .bool _, _, _, al, _ | .dict _, .int _, _, _, al, _ | .dict _, .str _, _, _, al, _ | .dict _, .list _, _, _, al, _ | .dict _, .tuple _, _, _, al, _ | .dict _, .dict _, _, _, al, _ => by simp [PySem.W.alike] at al
theorem toks_inj : ∀ (xs ys : List PyData) (l m : List (Int ⊕ List Nat)), PySem.W.alikeAll xs ys = true → PySem.W.keyToksAll xs ++ l = PySem.W.keyToksAll ys ++ m → xs = ys ∧ l = m
  | [], [], l, m, _, h => ⟨rfl, by simpa [PySem.W.keyToksAll] using h⟩
  | [], _ :: _, l, m, _, h => by simp [PySem.W.keyToksAll] at h
  | _ :: _, [], l, m, _, h => by simp [PySem.W.keyToksAll] at h
  | x :: xs, y :: ys, l, m, al, h => by
    obtain ⟨a1, a2⟩ := PySem.W.alike_all_cons al
    simp only [PySem.W.keyToksAll, List.cons_append, List.cons.injEq, true_and, List.append_assoc] at h
    obtain ⟨e1, e2⟩ := tok_inj x y _ _ a1 h
    obtain ⟨e3, e4⟩ := toks_inj xs ys l m a2 e2
    exact ⟨by rw [e1, e3], e4⟩
end
theorem lt_total {x y : PyData} (al : PySem.W.alike x y = true) (h1 : PySem.W.dataLt x y = false) (h2 : PySem.W.dataLt y x = false) : x = y :=
  (tok_inj x y [] [] al (by rw [List.append_nil, List.append_nil]; exact PyProof.Rows.lex_total _ _ h1 h2)).1
theorem le_iff {x y : PyData} : PySem.W.dataLe false id x y = true ↔ PySem.W.dataLt y x = false := by
  show (!PySem.W.dataLt y x) = true ↔ _
  cases PySem.W.dataLt y x <;> simp
theorem srt_pw (l : List PyData) : (srt l).Pairwise fun a b => PySem.W.dataLe false id a b = true := by
  refine List.pairwise_mergeSort (fun a b c h1 h2 => ?_) (fun a b => ?_) l
  · rw [le_iff] at *
    cases q : PySem.W.dataLt c a with
    | false => rfl
    | true =>
      rcases PyProof.Rows.lex_negTrans _ (PySem.W.keyToks b) _ q with z | z
      · exact absurd (show PySem.W.dataLt c b = true from z) (by rw [h2]; decide)
      · exact absurd (show PySem.W.dataLt b a = true from z) (by rw [h1]; decide)
  · rw [Bool.or_eq_true, le_iff, le_iff]
    cases q : PySem.W.dataLt b a with
    | false => exact .inl rfl
    | true =>
      right
      cases q2 : PySem.W.dataLt a b with
      | false => rfl
      | true =>
        have := PyProof.Rows.lex_trans _ _ _ q q2
        rw [PyProof.Rows.lex_irrefl] at this
        cases this
theorem srt_eq {l m : List PyData} (al : PySem.W.AllAlike l) (h : l.Perm m) : srt l = srt m := by
  refine List.Perm.eq_of_pairwise (le := fun a b => PySem.W.dataLe false id a b = true) (fun a b ha hb h1 h2 => ?_) (srt_pw l) (srt_pw m) ((srt_perm l).trans (h.trans (srt_perm m).symm))
  have ha' : a ∈ l := (srt_perm l).mem_iff.mp ha
  have hb' : b ∈ l := h.mem_iff.mpr ((srt_perm m).mem_iff.mp hb)
  exact lt_total (al a ha' b hb') (le_iff.mp h2) (le_iff.mp h1)
/-- each once -/
noncomputable def dd : List PyData → List PyData
  | [] => []
  | d :: ds => if d ∈ ds then dd ds else d :: dd ds
theorem dd_mem {x : PyData} : ∀ {l : List PyData}, x ∈ dd l ↔ x ∈ l
  | [] => Iff.rfl
  | d :: ds => by
    unfold dd
    by_cases h : d ∈ ds
    · rw [if_pos h, dd_mem, List.mem_cons]
      exact ⟨.inr, fun z => z.elim (fun e => e ▸ h) id⟩
    · rw [if_neg h, List.mem_cons, List.mem_cons, dd_mem]
end Z

namespace Z
open PySem L2 PyProof.Rows

section
variable {X : Cx} {pins : List (Addr × Obj)} {σ : L2.St} {H : Hp} {s : Shared}
end
end Z

namespace Z
open PySem L2 PyProof.Rows

structure Tp where
  cells : List Int
  n : Int
  x : Int
  y : Int
section
variable {X : Cx} {e a b c : Expr} {es : List Expr} {st : Stmt} {rest body : List Stmt} {s s' s1 s2 s3 : S} {r : SD} {rs : List SD} {pos p : Pos} {P : Po} {x y : PyData} {i j : Int} {o n : Nat} {O O' : Own}
end
section
variable {X : Cx} {x1 x2 e : Expr} {s s1 s' : S} {p pos : Pos} {o k j : Nat} {b b' : Tp} {m d : Int}
end
end Z

namespace Z
open PySem L2 PyProof.Rows

section
open AutoSeq1 MeetsSeq MeetsSeq2
end
section
variable {X : Cx} {e a b c : Expr} {es : List Expr} {st : Stmt} {rest body : List Stmt} {s s' s1 s2 s3 : S} {r r1 : SD} {rs : List SD} {pos p p2 q : Pos} {P : Po} {x y : PyData} {i j k : Int} {o n : Nat} {ds es' : List PyData}
end
end Z

namespace Z
open PySem L2 PyProof.Rows
section
variable {X : Cx} {tg iter elt tg1 iter1 : Expr} {ifs ifs1 : List Expr} {s s1 : S} {ds : List PyData} {pos : Pos}
end
end Z

namespace Z
open PySem L2 PyProof.Rows

section
open AutoSeq1 MeetsSeq MeetsSeq2
theorem add_any (l : Addr) (its : Array Value) (n : Nat) (b : Addr) (its2 : Array Value) (n2 : Nat) (dd d1 : Option Addr) (sl s1 : Array (Option Value)) (h2 : its.size + its2.size ≤ sizeLine) :
    PySem.Meets (Builtin.«list.__add__» ⟨[.ref l, .ref b], []⟩) (fun _ R s => s.heap.get? l = some { cls := .type "list", dict := d1, data := .seq its n, slots := s1 } ∧ s.heap.get? b = some { cls := .type "list", dict := dd, data := .seq its2 n2, slots := sl } ∧
      R (.ok (.ret (Value.ref s.heap.objs.size))) { s with heap := s.heap.push { cls := Value.type "list", data := Data.seq (its ++ its2) }, toks := s.toks }) :=
  PySem.Meets.of_wp fun prog w A R s h => by
    obtain ⟨hp, g, d, tk, os⟩ := s
    obtain ⟨hl, hb, h⟩ := h
    have hc0 := h2
    have f1 := AutoSeq1.idx_int
    have f2 := AutoSeq1.sub_tuple_tuple
    have f3 := AutoSeq1.sub_list_list
    have f4 := AutoSeq1.sub_tuple_list
    have f5 := AutoSeq1.sub_list_tuple
    wp_walk using wpAny_loadPart' hl, wpAny_loadPart' hb
    exact ⟨_, rfl, h⟩
theorem tup_mul1 (l : Addr) (items : Array Value) (n : Nat) (dd : Option Addr) (sl : Array (Option Value)) (x : Int) (u : Tok) (c0 : (decide (x < -(2 ^ 63)) || decide (x ≥ 2 ^ 63)) = false) (c1 : (items.isEmpty || x == 1) = true) :
    PySem.Meets (Builtin.«tuple.__mul__» ⟨[.ref l, .int x u], []⟩) (fun _ R s => s.heap.get? l = some { cls := .type "tuple", dict := dd, data := .seq items n, slots := sl } ∧
      R (.ok (.ret (Value.ref l))) { s with heap := s.heap, toks := s.toks }) :=
  PySem.Meets.of_wp fun prog w A R s h => by
    obtain ⟨hp, g, d, tk, os⟩ := s
    obtain ⟨hl, h⟩ := h
    have f1 := AutoSeq1.idx_int
    wp_walk using wpAny_loadPart' hl
    repeat (first
      | (refine wpAny_ite_false (decide_eq_false (by rw [c0]; exact Bool.false_ne_true)) ?_; wp_walk using wpAny_loadPart' hl)
      | (refine wpAny_ite_true (decide_eq_true (by rw [c1])) ?_; wp_walk using wpAny_loadPart' hl))
    exact ⟨_, rfl, h⟩
end
section
variable {X : Cx} {e a b c : Expr} {es : List Expr} {st : Stmt} {rest body : List Stmt} {s s' s1 s2 s3 : S} {r r1 : SD} {rs : List SD} {pos p p2 q : Pos} {P : Po} {x y : PyData} {i j k : Int} {o n : Nat} {ds es' : List PyData}
def rCatQ (K : PySem.W.Frag) : R2 := fun x y H Q => ∃ l b xs zs, x = V.ref l ∧ y = V.ref b ∧ SqL K H l xs ∧ SqL K H b zs ∧ xs.length + zs.length ≤ sizeLine ∧ ∀ p, H p = none → Q (.ref p) (upd H p (.lst (xs ++ zs)))
theorem op_catQ : OpR X (binaryOp .Add) (rCatQ X.K) := by
  intro pins s σ H x y v u Q I rx ry h
  obtain ⟨l, b, xs, zs, rfl, rfl, hH, hB, hz, q⟩ := h
  cases rx
  cases ry
  obtain ⟨its, r, ⟨o1, n, e1, c1, d1, f1⟩, z⟩ := I.list hH
  obtain ⟨its2, r2, ⟨o2, n2, e2, c2, d2, f2⟩, z2⟩ := I.list hB
  have h1 := r.length
  have h2 := r2.length
  obtain ⟨oc, od, dt, sl⟩ := o1
  obtain ⟨oc', od', dt', sl'⟩ := o2
  simp only at c1 c2 f1 f2
  subst c1 c2 f1 f2
  refine concat_meets ⟨_, e1, rfl⟩ ⟨_, e2, rfl⟩ noFill_list_add seq_list_add F.slot_list_add F.entry_list_add (F.args_list_add_2 _ _) (add_any l its.toArray n b its2.toArray n2 od' od sl' sl (by rw [List.size_toArray, List.size_toArray]; omega)) ⟨e1, e2, ?_⟩
  have ea : its.toArray ++ its2.toArray = (its ++ its2).toArray := by simp
  rw [ea]
  exact ⟨.ref _, _, I.lnew (t' := s.toks) (r.append r2) (by rw [List.length_append]; omega), rfl, q _ I.fresh⟩
/-- t * k, k at least 1 -/
def rRepQ (K : PySem.W.Frag) : R2 := fun x y H Q => ∃ l k xs, x = V.ref l ∧ y = V.int k ∧ SqT K H l xs ∧ xs ≠ [] ∧ 1 ≤ k ∧ k ≤ 1000 ∧ xs.length ≤ 1000 ∧ (k = 1 → Q (.ref l) H) ∧ (2 ≤ k → ∀ p, H p = none → Q (.ref p) (upd H p (.tup (List.replicate k.toNat xs).flatten)))
theorem op_repQ : OpR X (binaryOp .Mult) (rRepQ X.K) := by
  intro pins s σ H x y v u Q I rx ry h
  obtain ⟨l, k, xs, rfl, rfl, hT, hne, h1, h2, hz, q1, q2⟩ := h
  by_cases hk : k = 1
  · subst hk
    cases rx
    obtain ⟨t, rfl⟩ := ry
    obtain ⟨its, r, ⟨⟨cls, dd, data, sl⟩, ho, hc, n, hd⟩, hs⟩ := I.tuple hT
    simp only at hc hd
    subst hc hd
    exact wpAny_binaryOp_repeat_ref (T := "tuple") (U := "int") (by decide) ⟨_, ho, rfl⟩ (fun s' => typeIs_int s' 1 t) noFill_tuple_mul F.fills_int_mul F.slot_int_rmul repeat_tuple F.slot_int_index.lookup
      (call_meets F.slot_int_rmul (typeIs_int s 1 t) F.entry_int_rmul (F.args_int_rmul_2 _ _) (int_rmul_tuple 1 t l its.toArray n dd sl)
        ⟨ho, rfl, ⟨_, ho, rfl⟩, call_meets F.slot_tuple_mul ⟨_, ho, rfl⟩ F.entry_tuple_mul (F.args_tuple_mul_2 _ _) (tup_mul1 l its.toArray n dd sl 1 t rfl (by simp)) ⟨ho, ⟨.ref l, H, I.tok s.toks, rfl, q1 rfl⟩⟩⟩)
  · exact op_repT pins s σ H _ _ v u Q I rx ry ⟨l, k, xs, rfl, rfl, hT, hne, by omega, h2, hz, q2 (by omega)⟩
end
end Z

namespace Z
open PySem L2 PyProof.Rows

section
variable {X : Cx} {e a b c : Expr} {es : List Expr} {st : Stmt} {rest body : List Stmt} {s s' s1 s2 s3 : S} {r : SD} {rs : List SD} {pos p : Pos} {P : Po} {ds : List PyData} {x y : PyData} {f f' : PyData → PyData → Prop} {D D' : PyData → Prop} {o : Nat}
/-- a dict of answers: each told answer is right, each key of D is there -/
def OMs (pr : Program) (w : World) (f : PyData → PyData → Prop) (D : PyData → Prop) : Own where
  holds := fun K F H v fp => ∃ p xs, v = .ref p ∧ fp = [p] ∧ H p = some (DxO pr w p xs) ∧ (∀ d, D d → (atKey xs d).isSome = true) ∧ ∀ e ∈ xs, KyD K F e.2.1 e.1 ∧ ∃ vv dv, RelV vv e.2.2 ∧ Dp K F vv dv ∧ f e.1 dv
  stay := fun ⟨p, xs, e1, e2, e3, e0, e4⟩ e k => ⟨p, xs, e1, e2, k p (by rw [e2]; simp) _ e3, e0, fun z hz => let ⟨⟨a1, a2, a3⟩, vv, dv, a4, a5, a6⟩ := e4 z hz; ⟨⟨dpUp e _ _ a1, a2, a3⟩, vv, dv, a4, dpUp e _ _ a5, a6⟩⟩
theorem OMs.le {pr : Program} {w : World} (h1 : ∀ k v, f k v → f' k v) (h2 : ∀ d, D' d → D d) : OLe (OMs pr w f D) (OMs pr w f' D') := fun K F H v fp ⟨p, xs, e1, e2, e3, e0, e4⟩ => ⟨p, xs, e1, e2, e3, fun d hd => e0 d (h2 d hd), fun z hz => let ⟨a1, vv, dv, a4, a5, a6⟩ := e4 z hz; ⟨a1, vv, dv, a4, a5, h1 _ _ a6⟩⟩
end
end Z

namespace Z
open PySem L2 PyProof.Rows

section
variable {X : Cx} {rest : List Stmt} {s s1 : S} {P : Po} {ds : List PyData} {o : Nat}
def ODead : Own where
  holds := fun _ _ _ _ fp => fp = []
  stay := fun h _ _ => h
theorem OK.dead {K : PySem.W.Frag} {l : List En} {H : Hp} {v : V} (h : OK K l H) : OK K ((IT.o ODead, some v) :: l) H := by
  obtain ⟨F, L, e, g⟩ := h
  exact ⟨F, (((IT.o ODead, some v), []) :: L), by rw [List.map_cons, e], g.oCons rfl List.nodup_nil (fun a ha => by cases ha) (fun a ha => by cases ha)⟩
theorem Sat.slots {K : PySem.W.Frag} {σ : L2.St} {ρ : List V} {T : List En} {H : Hp} {v : V} {x : PyData} : ∀ (is : List Nat) {s : S}, is.Nodup → (∀ i ∈ is, s.e[i]? = some (.r o)) → Sat K s σ ρ ((IT.d x, some v) :: T) H → ρ[o]? = some v → Sat K ⟨is.foldl (fun e i => e.set i (.d x)) s.e, s.R⟩ σ ρ ((IT.d x, some v) :: T) H
  | [], s, _, _, g, _ => g
  | i :: is, s, nd, hi, g, hv => by
    have h0 := hi i List.mem_cons_self
    obtain ⟨u, e1, e2⟩ := g.al i o h0
    have eu : u = v := Option.some.inj (e2.symm.trans hv)
    subst eu
    obtain ⟨u', e3, _, ok⟩ := g.ok.dup (x := x) (v := some u) (List.mem_append_left _ List.mem_cons_self)
    cases e3
    have g2 : Sat K s σ ρ ((itOf (SD.d x), some u) :: ((IT.d x, some u) :: T)) H := ⟨g.le, g.lr, g.al, ok⟩
    have g3 := Sat.put (i := i) (r := .d x) (List.getElem?_eq_some_iff.mp h0).1 trivial g2
    rw [set_self e1] at g3
    have nd' := List.nodup_cons.mp nd
    exact Sat.slots is (s := ⟨s.e.set i (.d x), s.R⟩) nd'.2 (fun k hk => by
      show (s.e.set i (.d x))[k]? = _
      rw [List.getElem?_set_ne (fun e => nd'.1 (by rw [e]; exact hk))]
      exact hi k (List.mem_cons_of_mem _ hk)) g3 hv
end
end Z

namespace N
open PySem L2 PyProof.Rows
open Z (Ext dpUp dpsUp dpsLen dpsGet DxO KyD DEn)

/-- a value: a datum, or a reference to an object of the store -/
inductive D where
  | d (x : PyData) | r (j : Nat)
/-- an object of the store: a list; a dict with tuples as keys; one with ints and texts; a dict with tuples as keys that is being gone through; a range; nothing known -/
inductive Cell where
  | lst (ds : List D) | dic (kvs : List (PyData × D)) | dk (kvs : List (Key × D)) | dfz (kvs : List (PyData × D)) | rng (lo hi : Int) | tp (ds : List D) | ins (C : Addr) (fs : List (Str × D)) | gone
abbrev Sto := List Cell
abbrev Lo := List (Option D)
structure Ba where
  P : Program
  w : World
  K : PySem.W.Frag
structure W where
  F : Hp
  ρ : List Addr
structure W.le (w w' : W) : Prop where
  F : Ext w.F w'.F
  ρ : w.ρ <+: w'.ρ
theorem W.le.refl (w : W) : w.le w := ⟨Ext.refl _, List.prefix_rfl⟩
theorem W.le.trans {a b c : W} (h : a.le b) (g : b.le c) : a.le c := ⟨h.F.trans g.F, h.ρ.trans g.ρ⟩
abbrev W.take (w : W) (n : Nat) : W := ⟨w.F, w.ρ.take n⟩
theorem W.take_le (w : W) (n : Nat) : (w.take n).le w := ⟨Ext.refl _, List.take_prefix _ _⟩

def VR (B : Ba) (w : W) (v : V) : D → Prop
  | .d x => Dp B.K w.F v x
  | .r j => ∃ a, w.ρ[j]? = some a ∧ v = .ref a
def VRs (B : Ba) (w : W) : List V → List D → Prop
  | [], [] => True
  | v :: vs, d :: ds => VR B w v d ∧ VRs B w vs ds
  | _, _ => False
def DR (B : Ba) (w : W) : List DEn → List (PyData × D) → Prop
  | [], [] => True
  | e :: xs, kv :: kvs => (e.1 = kv.1 ∧ KyD B.K w.F e.2.1 e.1 ∧ ∃ vv, RelV vv e.2.2 ∧ VR B w vv kv.2) ∧ DR B w xs kvs
  | _, _ => False
def KR (B : Ba) (w : W) : List (Key × V) → List (Key × D) → Prop
  | [], [] => True
  | e :: xs, kv :: kvs => (e.1 = kv.1 ∧ VR B w e.2 kv.2) ∧ KR B w xs kvs
  | _, _ => False
/-- the attributes of an instance -/
def FR (B : Ba) (w : W) : List (Str × V) → List (Str × D) → Prop
  | [], [] => True
  | e :: xs, kv :: kvs => (e.1 = kv.1 ∧ VR B w e.2 kv.2) ∧ FR B w xs kvs
  | _, _ => False
def CR (B : Ba) (w : W) (H : Hp) (a : Addr) : Cell → Prop
  | .lst ds => w.F a = none ∧ ∃ vs, H a = some (.lst vs) ∧ VRs B w vs ds
  | .dic kvs => w.F a = none ∧ ∃ xs, H a = some (DxO B.P B.w a xs) ∧ DR B w xs kvs
  | .dk kvs => w.F a = none ∧ ∃ xs, H a = some (.dK xs) ∧ KR B w xs kvs
  | .dfz kvs => ∃ o xs, w.F a = some (.frz o (DxO B.P B.w a xs)) ∧ DR B w xs kvs
  | .rng lo hi => w.F a = none ∧ H a = some (.rng lo hi)
  | .tp ds => w.F a = none ∧ ∃ vs, H a = some (.tup vs) ∧ VRs B w vs ds
  | .ins C fs => w.F a = none ∧ ∃ dx vs, H a = some (.ins C dx vs) ∧ FR B w vs fs
  | .gone => True
structure Ok (B : Ba) (w : W) (s : Sto) (H : Hp) : Prop where
  ext : Ext w.F H
  lr : w.ρ.length = s.length
  nd : w.ρ.Nodup
  al : ∀ a ∈ w.ρ, ∃ o, H a = some o
  ce : ∀ (j : Nat) (c : Cell) (a : Addr), s[j]? = some c → w.ρ[j]? = some a → CR B w H a c
structure Sl (B : Ba) (w : W) (e : Lo) (σ : L2.St) : Prop where
  le : e.length = σ.length
  sl : ∀ (i : Nat) (d : D), e[i]? = some (some d) → ∃ v, σ[i]? = some (some v) ∧ VR B w v d

section
variable {B : Ba} {w w' : W} {H H' : Hp} {e : Lo} {s : Sto} {σ : L2.St} {v : V} {d : D} {vs : List V} {ds : List D}
theorem pre_get {α : Type} {l m : List α} (p : l <+: m) {i : Nat} {a : α} (h : l[i]? = some a) : m[i]? = some a := by
  obtain ⟨k, rfl⟩ := p
  rw [List.getElem?_append_left (List.getElem?_eq_some_iff.mp h).1]
  exact h
theorem VR.up (l : w.le w') : ∀ {d : D}, VR B w v d → VR B w' v d
  | .d x, h => dpUp l.F x v h
  | .r j, ⟨a, h1, h2⟩ => ⟨a, pre_get l.ρ h1, h2⟩
theorem VRs.up (l : w.le w') : ∀ {vs : List V} {ds : List D}, VRs B w vs ds → VRs B w' vs ds
  | [], [], _ => trivial
  | v :: vs, d :: ds, ⟨h1, h2⟩ => ⟨h1.up l, VRs.up l h2⟩
  | [], _ :: _, h => h.elim
  | _ :: _, [], h => h.elim
theorem DR.up (l : w.le w') : ∀ {xs : List DEn} {kvs : List (PyData × D)}, DR B w xs kvs → DR B w' xs kvs
  | [], [], _ => trivial
  | e :: vs, d :: ds, ⟨⟨h1, ⟨h2, h3⟩, vv, h4, h5⟩, h6⟩ => ⟨⟨h1, ⟨dpUp l.F _ _ h2, h3⟩, vv, h4, h5.up l⟩, DR.up l h6⟩
  | [], _ :: _, h => h.elim
  | _ :: _, [], h => h.elim
theorem KR.up (l : w.le w') : ∀ {xs : List (Key × V)} {kvs : List (Key × D)}, KR B w xs kvs → KR B w' xs kvs
  | [], [], _ => trivial
  | e :: vs, d :: ds, ⟨⟨h1, h2⟩, h6⟩ => ⟨⟨h1, h2.up l⟩, KR.up l h6⟩
  | [], _ :: _, h => h.elim
  | _ :: _, [], h => h.elim
theorem FR.up (l : w.le w') : ∀ {xs : List (Str × V)} {kvs : List (Str × D)}, FR B w xs kvs → FR B w' xs kvs
  | [], [], _ => trivial
  | e :: vs, d :: ds, ⟨⟨h1, h2⟩, h6⟩ => ⟨⟨h1, h2.up l⟩, FR.up l h6⟩
  | [], _ :: _, h => h.elim
  | _ :: _, [], h => h.elim
theorem Sl.up (l : w.le w') (h : Sl B w e σ) : Sl B w' e σ := ⟨h.le, fun i d q => let ⟨v, h1, h2⟩ := h.sl i d q; ⟨v, h1, h2.up l⟩⟩
theorem VRs.len : ∀ {vs : List V} {ds : List D}, VRs B w vs ds → vs.length = ds.length
  | [], [], _ => rfl
  | v :: vs, d :: ds, ⟨h1, h2⟩ => by simp [VRs.len h2]
  | [], _ :: _, h => h.elim
  | _ :: _, [], h => h.elim
theorem VRs.get : ∀ {vs : List V} {ds : List D} {i : Nat} {d : D}, VRs B w vs ds → ds[i]? = some d → ∃ v, vs[i]? = some v ∧ VR B w v d
  | [], [], i, d, _, h => by simp at h
  | v :: vs, d :: ds, 0, d', ⟨h1, h2⟩, h => by simp at h; subst h; exact ⟨v, rfl, h1⟩
  | v :: vs, d :: ds, i + 1, d', ⟨h1, h2⟩, h => by
    obtain ⟨u, a, b⟩ := VRs.get h2 (i := i) (d := d') (by simpa using h)
    exact ⟨u, by simpa using a, b⟩
  | [], _ :: _, _, _, h, _ => h.elim
  | _ :: _, [], _, _, h, _ => h.elim
theorem VRs.app : ∀ {vs us : List V} {ds es : List D}, VRs B w vs ds → VRs B w us es → VRs B w (vs ++ us) (ds ++ es)
  | [], _, [], _, _, h => h
  | v :: vs, _, d :: ds, _, ⟨h1, h2⟩, h => ⟨h1, VRs.app h2 h⟩
  | [], _, _ :: _, _, h, _ => h.elim
  | _ :: _, _, [], _, h, _ => h.elim
theorem VRs.set (hv : VR B w v d) : ∀ {vs : List V} {ds : List D} (i : Nat), VRs B w vs ds → VRs B w (vs.set i v) (ds.set i d)
  | [], [], _, _ => trivial
  | _ :: _, _ :: _, 0, ⟨_, h2⟩ => ⟨hv, h2⟩
  | _ :: _, _ :: _, i + 1, ⟨h1, h2⟩ => ⟨h1, VRs.set hv i h2⟩
  | [], _ :: _, _, h => h.elim
  | _ :: _, [], _, h => h.elim
theorem VRs.take : ∀ {vs : List V} {ds : List D} (n : Nat), VRs B w vs ds → VRs B w (vs.take n) (ds.take n)
  | _, _, 0, _ => trivial
  | [], [], n + 1, _ => trivial
  | _ :: _, _ :: _, n + 1, ⟨h1, h2⟩ => ⟨h1, VRs.take n h2⟩
  | [], _ :: _, _ + 1, h => h.elim
  | _ :: _, [], _ + 1, h => h.elim
theorem VRs.drop : ∀ {vs : List V} {ds : List D} (n : Nat), VRs B w vs ds → VRs B w (vs.drop n) (ds.drop n)
  | _, _, 0, h => h
  | [], [], n + 1, _ => trivial
  | _ :: _, _ :: _, n + 1, ⟨_, h2⟩ => VRs.drop n h2
  | [], _ :: _, _ + 1, h => h.elim
  | _ :: _, [], _ + 1, h => h.elim
theorem VRs.eraseIdx : ∀ {vs : List V} {ds : List D} (n : Nat), VRs B w vs ds → VRs B w (vs.eraseIdx n) (ds.eraseIdx n)
  | [], [], _, _ => trivial
  | _ :: _, _ :: _, 0, ⟨_, h⟩ => h
  | _ :: _, _ :: _, n + 1, ⟨h1, h2⟩ => ⟨h1, VRs.eraseIdx n h2⟩
  | [], _ :: _, _, h => h.elim
  | _ :: _, [], _, h => h.elim
/-- a row of data -/
theorem VRs.data : ∀ {vs : List V} {xs : List PyData}, VRs B w vs (xs.map .d) ↔ DpAll B.K w.F vs xs
  | [], [] => ⟨fun _ => .nil, fun _ => trivial⟩
  | v :: vs, x :: xs => ⟨fun ⟨h1, h2⟩ => .cons h1 (VRs.data.mp h2), fun h => by cases h with | cons h1 h2 => exact ⟨h1, VRs.data.mpr h2⟩⟩
  | [], _ :: _ => ⟨fun h => h.elim, fun h => by cases h⟩
  | _ :: _, [] => ⟨fun h => h.elim, fun h => by cases h⟩
theorem VRs.below : ∀ {vs : List V} {ds : List D}, VRs B w vs ds → ∀ j, D.r j ∈ ds → j < w.ρ.length
  | [], [], _, j, h => by simp at h
  | v :: vs, d :: ds, ⟨h1, h2⟩, j, h => by
    rcases List.mem_cons.mp h with h | h
    · subst h
      obtain ⟨a, h3, _⟩ := h1
      exact (List.getElem?_eq_some_iff.mp h3).1
    · exact VRs.below h2 j h
  | [], _ :: _, h, _, _ => h.elim
  | _ :: _, [], h, _, _ => h.elim

theorem CR.up (l : w.le w') {a : Addr} {c : Cell} (h : CR B w H a c) (hF : w.F a = none → w'.F a = none) (hH : ∀ o, H a = some o → H' a = some o) : CR B w' H' a c := by
  cases c with
  | lst ds => obtain ⟨h1, vs, h2, h3⟩ := h; exact ⟨hF h1, vs, hH _ h2, h3.up l⟩
  | dic ds => obtain ⟨h1, vs, h2, h3⟩ := h; exact ⟨hF h1, vs, hH _ h2, h3.up l⟩
  | dk ds => obtain ⟨h1, vs, h2, h3⟩ := h; exact ⟨hF h1, vs, hH _ h2, h3.up l⟩
  | dfz ds => obtain ⟨o, xs, h2, h3⟩ := h; exact ⟨o, xs, l.F a _ h2, h3.up l⟩
  | rng lo hi => exact ⟨hF h.1, hH _ h.2⟩
  | tp ds => obtain ⟨h1, vs, h2, h3⟩ := h; exact ⟨hF h1, vs, hH _ h2, h3.up l⟩
  | ins C fs => obtain ⟨h1, dx, vs, h2, h3⟩ := h; exact ⟨hF h1, dx, vs, hH _ h2, h3.up l⟩
  | gone => trivial
theorem CR.gone {a : Addr} : CR B w H a .gone := trivial
theorem ext_none (g : Ext w.F H) {p : Addr} (hp : H p = none) : w.F p = none := by
  cases q : w.F p with
  | none => rfl
  | some o => rw [g p o q] at hp; cases hp
theorem Ok.notin (g : Ok B w s H) {p : Addr} (hp : H p = none) : p ∉ w.ρ := fun h => by
  obtain ⟨o, ho⟩ := g.al p h
  rw [hp] at ho
  cases ho
/-- a new thing laid down for good -/
theorem Ok.frz (g : Ok B w s H) {p : Addr} {o : HO} (hp : H p = none) : Ok B ⟨upd w.F p o, w.ρ⟩ s (upd H p o) := by
  have l : w.le ⟨upd w.F p o, w.ρ⟩ := ⟨Ext.up (ext_none g.ext hp), List.prefix_rfl⟩
  refine ⟨fun a u q => ?_, g.lr, g.nd, fun a ha => ?_, fun j c a h1 h2 => ?_⟩
  · have q : upd w.F p o a = some u := q
    by_cases e : a = p
    · subst e; rw [upd_same] at q ⊢; exact q
    · rw [upd_ne e] at q ⊢; exact g.ext a u q
  · obtain ⟨u, hu⟩ := g.al a ha
    exact ⟨u, by rw [upd_ne (ne_of_none hu hp)]; exact hu⟩
  · have ha := List.mem_of_getElem? h2
    have ne : a ≠ p := fun e => g.notin hp (e ▸ ha)
    have k := g.ce j c a h1 h2
    refine k.up l (fun hn => ?_) fun o ho => by rw [upd_ne ne]; exact ho
    show upd w.F p _ a = none
    rw [upd_ne ne]; exact hn
theorem Ok.frz_le (g : Ok B w s H) {p : Addr} {o : HO} (hp : H p = none) : w.le ⟨upd w.F p o, w.ρ⟩ := ⟨Ext.up (ext_none g.ext hp), List.prefix_rfl⟩
/-- a new object of the store -/
theorem Ok.new (g : Ok B w s H) {p : Addr} {o : HO} {c : Cell} (hp : H p = none) (hc : CR B ⟨w.F, w.ρ ++ [p]⟩ (upd H p o) p c) : Ok B ⟨w.F, w.ρ ++ [p]⟩ (s ++ [c]) (upd H p o) := by
  have l : w.le ⟨w.F, w.ρ ++ [p]⟩ := ⟨Ext.refl _, List.prefix_append _ _⟩
  refine ⟨fun a u q => ?_, by simp [g.lr], ?_, fun a ha => ?_, fun j c' a h1 h2 => ?_⟩
  · have := g.ext a u q
    rw [upd_ne (ne_of_none this hp)]
    exact this
  · show (w.ρ ++ [p]).Nodup
    rw [List.nodup_append]
    exact ⟨g.nd, by simp, fun a ha b hb => by
      have : b = p := by simpa using hb
      subst this
      exact fun e => g.notin hp (e ▸ ha)⟩
  · rcases List.mem_append.mp ha with h | h
    · obtain ⟨u, hu⟩ := g.al a h
      exact ⟨u, by rw [upd_ne (ne_of_none hu hp)]; exact hu⟩
    · have : a = p := by simpa using h
      subst this
      exact ⟨o, upd_same⟩
  · by_cases hj : j < s.length
    · rw [List.getElem?_append_left hj] at h1
      have h2' : w.ρ[j]? = some a := by rwa [List.getElem?_append_left (by rw [g.lr]; exact hj)] at h2
      have k := g.ce j c' a h1 h2'
      have ne : a ≠ p := fun e => g.notin hp (e ▸ List.mem_of_getElem? h2')
      exact k.up l (fun hn => hn) fun o ho => by rw [upd_ne ne]; exact ho
    · have hj2 := (List.getElem?_eq_some_iff.mp h1).1
      rw [List.length_append, List.length_singleton] at hj2
      have e : j = s.length := by omega
      subst e
      rw [List.getElem?_append_right (Nat.le_refl _), Nat.sub_self] at h1
      rw [← g.lr, List.getElem?_append_right (Nat.le_refl _), Nat.sub_self] at h2
      cases h1
      cases h2
      exact hc
theorem Ok.new_le {p : Addr} : w.le ⟨w.F, w.ρ ++ [p]⟩ := ⟨Ext.refl _, List.prefix_append _ _⟩
theorem Ok.new_at (g : Ok B w s H) {p : Addr} : VR B ⟨w.F, w.ρ ++ [p]⟩ (.ref p) (.r s.length) := ⟨p, by
  show (w.ρ ++ [p])[s.length]? = some p
  rw [← g.lr, List.getElem?_append_right (Nat.le_refl _), Nat.sub_self]
  rfl, rfl⟩
/-- an object changes -/
theorem Ok.chg (g : Ok B w s H) {j : Nat} {a : Addr} {o : HO} {c : Cell} (hj : w.ρ[j]? = some a) (hF : w.F a = none) (hc : CR B w (upd H a o) a c) : Ok B w (s.set j c) (upd H a o) := by
  refine ⟨fun b u q => ?_, by simp [g.lr], g.nd, fun b hb => ?_, fun k c' b h1 h2 => ?_⟩
  · have ne : b ≠ a := fun e => by subst e; rw [hF] at q; cases q
    rw [upd_ne ne]
    exact g.ext b u q
  · by_cases e : b = a
    · subst e; exact ⟨o, upd_same⟩
    · obtain ⟨u, hu⟩ := g.al b hb
      exact ⟨u, by rw [upd_ne e]; exact hu⟩
  · by_cases e : k = j
    · subst e
      have hk := (List.getElem?_eq_some_iff.mp hj).1
      rw [List.getElem?_set_self (by rw [← g.lr]; exact hk)] at h1
      cases h1
      have : b = a := Option.some.inj (h2.symm.trans hj)
      subst this
      exact hc
    · rw [List.getElem?_set_ne (Ne.symm e)] at h1
      have ne : b ≠ a := fun q => by
        subst q
        exact e ((List.getElem?_inj (List.getElem?_eq_some_iff.mp h2).1 g.nd).mp (h2.trans hj.symm))
      have kk := g.ce k c' b h1 h2
      exact kk.up (W.le.refl w) (fun hn => hn) fun o ho => by rw [upd_ne ne]; exact ho
/-- an object is no longer told of -/
theorem Ok.drop (g : Ok B w s H) (j : Nat) : Ok B w (s.set j .gone) H := by
  refine ⟨g.ext, by simp [g.lr], g.nd, g.al, fun k c b h1 h2 => ?_⟩
  by_cases e : k = j
  · subst e
    have hk := (List.getElem?_eq_some_iff.mp h1).1
    rw [List.length_set] at hk
    rw [List.getElem?_set_self hk] at h1
    cases h1
    exact .gone
  · rw [List.getElem?_set_ne (Ne.symm e)] at h1
    exact g.ce k c b h1 h2
/-- what an object of the store refers to lies below -/
def Cell.below (n : Nat) : Cell → Prop
  | .lst ds => ∀ j, D.r j ∈ ds → j < n
  | .dic kvs => ∀ k j, (k, D.r j) ∈ kvs → j < n
  | .dk kvs => ∀ k j, (k, D.r j) ∈ kvs → j < n
  | .dfz kvs => ∀ k j, (k, D.r j) ∈ kvs → j < n
  | .rng _ _ => True
  | .tp ds => ∀ j, D.r j ∈ ds → j < n
  | .ins _ fs => ∀ k j, (k, D.r j) ∈ fs → j < n
  | .gone => True
theorem VR.cut {n : Nat} : ∀ {d : D}, VR B w v d → (∀ j, d = .r j → j < n) → VR B (w.take n) v d
  | .d x, h, _ => h
  | .r j, ⟨a, h1, h2⟩, hl => ⟨a, by show (w.ρ.take n)[j]? = _; rw [List.getElem?_take_of_lt (hl j rfl)]; exact h1, h2⟩
theorem VRs.cut {n : Nat} : ∀ {vs : List V} {ds : List D}, VRs B w vs ds → (∀ j, D.r j ∈ ds → j < n) → VRs B (w.take n) vs ds
  | [], [], _, _ => trivial
  | v :: vs, d :: ds, ⟨h1, h2⟩, h => ⟨h1.cut fun j e => h j (by rw [e]; simp), VRs.cut h2 fun j hj => h j (List.mem_cons_of_mem _ hj)⟩
  | [], _ :: _, h, _ => h.elim
  | _ :: _, [], h, _ => h.elim
theorem DR.cut {n : Nat} : ∀ {xs : List DEn} {kvs : List (PyData × D)}, DR B w xs kvs → (∀ k j, (k, D.r j) ∈ kvs → j < n) → DR B (w.take n) xs kvs
  | [], [], _, _ => trivial
  | e :: vs, d :: ds, ⟨⟨h1, h2, vv, h4, h5⟩, h6⟩, h => ⟨⟨h1, h2, vv, h4, h5.cut fun j q => h d.1 j (by rw [← q]; simp)⟩, DR.cut h6 fun k j hj => h k j (List.mem_cons_of_mem _ hj)⟩
  | [], _ :: _, h, _ => h.elim
  | _ :: _, [], h, _ => h.elim
theorem KR.cut {n : Nat} : ∀ {xs : List (Key × V)} {kvs : List (Key × D)}, KR B w xs kvs → (∀ k j, (k, D.r j) ∈ kvs → j < n) → KR B (w.take n) xs kvs
  | [], [], _, _ => trivial
  | e :: vs, d :: ds, ⟨⟨h1, h5⟩, h6⟩, h => ⟨⟨h1, h5.cut fun j q => h d.1 j (by rw [← q]; simp)⟩, KR.cut h6 fun k j hj => h k j (List.mem_cons_of_mem _ hj)⟩
  | [], _ :: _, h, _ => h.elim
  | _ :: _, [], h, _ => h.elim
theorem FR.cut {n : Nat} : ∀ {xs : List (Str × V)} {kvs : List (Str × D)}, FR B w xs kvs → (∀ k j, (k, D.r j) ∈ kvs → j < n) → FR B (w.take n) xs kvs
  | [], [], _, _ => trivial
  | e :: vs, d :: ds, ⟨⟨h1, h5⟩, h6⟩, h => ⟨⟨h1, h5.cut fun j q => h d.1 j (by rw [← q]; simp)⟩, FR.cut h6 fun k j hj => h k j (List.mem_cons_of_mem _ hj)⟩
  | [], _ :: _, h, _ => h.elim
  | _ :: _, [], h, _ => h.elim
theorem CR.cut {n : Nat} {a : Addr} {c : Cell} (h : CR B w H a c) (b : c.below n) : CR B (w.take n) H a c := by
  cases c with
  | lst ds => obtain ⟨h1, vs, h2, h3⟩ := h; exact ⟨h1, vs, h2, h3.cut b⟩
  | dic ds => obtain ⟨h1, vs, h2, h3⟩ := h; exact ⟨h1, vs, h2, h3.cut b⟩
  | dk ds => obtain ⟨h1, vs, h2, h3⟩ := h; exact ⟨h1, vs, h2, h3.cut b⟩
  | dfz ds => obtain ⟨o, xs, h2, h3⟩ := h; exact ⟨o, xs, h2, h3.cut b⟩
  | rng lo hi => exact h
  | tp ds => obtain ⟨h1, vs, h2, h3⟩ := h; exact ⟨h1, vs, h2, h3.cut b⟩
  | ins C fs => obtain ⟨h1, dx, vs, h2, h3⟩ := h; exact ⟨h1, dx, vs, h2, h3.cut b⟩
  | gone => trivial
theorem VR.lt {j : Nat} (h : VR B w v (.r j)) : j < w.ρ.length := let ⟨_, h1, _⟩ := h; (List.getElem?_eq_some_iff.mp h1).1
theorem DR.below : ∀ {xs : List DEn} {kvs : List (PyData × D)}, DR B w xs kvs → ∀ k j, (k, D.r j) ∈ kvs → j < w.ρ.length
  | [], [], _, _, _, h => by simp at h
  | e :: vs, d :: ds, ⟨⟨h1, h2, vv, h4, h5⟩, h6⟩, k, j, h => by
    rcases List.mem_cons.mp h with h | h
    · subst h; exact h5.lt
    · exact DR.below h6 k j h
  | [], _ :: _, h, _, _, _ => h.elim
  | _ :: _, [], h, _, _, _ => h.elim
theorem KR.below : ∀ {xs : List (Key × V)} {kvs : List (Key × D)}, KR B w xs kvs → ∀ k j, (k, D.r j) ∈ kvs → j < w.ρ.length
  | [], [], _, _, _, h => by simp at h
  | e :: vs, d :: ds, ⟨⟨h1, h5⟩, h6⟩, k, j, h => by
    rcases List.mem_cons.mp h with h | h
    · subst h; exact h5.lt
    · exact KR.below h6 k j h
  | [], _ :: _, h, _, _, _ => h.elim
  | _ :: _, [], h, _, _, _ => h.elim
theorem FR.below : ∀ {xs : List (Str × V)} {kvs : List (Str × D)}, FR B w xs kvs → ∀ k j, (k, D.r j) ∈ kvs → j < w.ρ.length
  | [], [], _, _, _, h => by simp at h
  | e :: vs, d :: ds, ⟨⟨h1, h5⟩, h6⟩, k, j, h => by
    rcases List.mem_cons.mp h with h | h
    · subst h; exact h5.lt
    · exact FR.below h6 k j h
  | [], _ :: _, h, _, _, _ => h.elim
  | _ :: _, [], h, _, _, _ => h.elim
theorem CR.isBelow {a : Addr} {c : Cell} (h : CR B w H a c) : c.below w.ρ.length := by
  cases c with
  | lst ds => obtain ⟨h1, vs, h2, h3⟩ := h; exact h3.below
  | dic ds => obtain ⟨h1, vs, h2, h3⟩ := h; exact h3.below
  | dk ds => obtain ⟨h1, vs, h2, h3⟩ := h; exact h3.below
  | dfz ds => obtain ⟨o, xs, h2, h3⟩ := h; exact h3.below
  | rng lo hi => trivial
  | tp ds => obtain ⟨h1, vs, h2, h3⟩ := h; exact h3.below
  | ins C fs => obtain ⟨h1, dx, vs, h2, h3⟩ := h; exact h3.below
  | gone => trivial
/-- the store cut back -/
theorem Ok.cut (g : Ok B w s H) {n : Nat} (h : ∀ j c, j < n → s[j]? = some c → c.below n) : Ok B (w.take n) (s.take n) H := by
  refine ⟨g.ext, by simp [g.lr], g.nd.sublist (List.take_sublist _ _), fun a ha => g.al a (List.mem_of_mem_take ha), fun j c a h1 h2 => ?_⟩
  by_cases hj : j < n
  · rw [List.getElem?_take_of_lt hj] at h1
    have h2' : w.ρ[j]? = some a := by
      have : (w.ρ.take n)[j]? = some a := h2
      rwa [List.getElem?_take_of_lt hj] at this
    exact (g.ce j c a h1 h2').cut (h j c hj h1)
  · rw [List.getElem?_eq_none (by rw [List.length_take]; omega)] at h1
    cases h1
/-- a list of data becomes a datum -/
theorem Ok.freeze (g : Ok B w s H) {j : Nat} {a : Addr} {xs : List PyData} (hs : s[j]? = some (.lst (xs.map .d))) (ha : w.ρ[j]? = some a) :
    ∃ w', w.le w' ∧ Ok B w' (s.set j .gone) H ∧ Dp B.K w'.F (.ref a) (.list xs) := by
  obtain ⟨hF, vs, hH, hv⟩ := g.ce j _ a hs ha
  have l : w.le ⟨upd w.F a (.lst vs), w.ρ⟩ := ⟨Ext.up hF, List.prefix_rfl⟩
  refine ⟨_, l, ⟨fun b u q => ?_, by simp [g.lr], g.nd, g.al, fun k c b h1 h2 => ?_⟩, .lst (.of upd_same) (dpsUp l.F _ _ (VRs.data.mp hv))⟩
  · by_cases e : b = a
    · subst e
      have q' : upd w.F b (.lst vs) b = some u := q
      rw [upd_same] at q'
      cases q'
      exact hH
    · have q' : upd w.F a (.lst vs) b = some u := q
      rw [upd_ne e] at q'
      exact g.ext b u q'
  · by_cases e : k = j
    · subst e
      have hk := (List.getElem?_eq_some_iff.mp hs).1
      rw [List.getElem?_set_self hk] at h1
      cases h1
      exact .gone
    · rw [List.getElem?_set_ne (Ne.symm e)] at h1
      have ne : b ≠ a := fun q => by
        subst q
        exact e ((List.getElem?_inj (List.getElem?_eq_some_iff.mp h2).1 g.nd).mp (h2.trans ha.symm))
      have kk := g.ce k c b h1 h2
      refine kk.up l (fun hn => ?_) fun o ho => ho
      show upd w.F a _ b = none
      rw [upd_ne ne]; exact hn
theorem Sl.put (g : Sl B w e σ) (i : Nat) (hv : VR B w v d) : Sl B w (e.set i (some d)) (σ.set i (some v)) := by
  refine ⟨by simp [g.le], fun k d' h => ?_⟩
  by_cases hk : k = i
  · subst hk
    have hl := (List.getElem?_eq_some_iff.mp h).1
    rw [List.length_set] at hl
    rw [List.getElem?_set_self hl] at h
    cases h
    exact ⟨v, by rw [List.getElem?_set_self (by rw [← g.le]; exact hl)], hv⟩
  · rw [List.getElem?_set_ne (Ne.symm hk)] at h
    obtain ⟨u, h1, h2⟩ := g.sl k d' h
    exact ⟨u, by rw [List.getElem?_set_ne (Ne.symm hk)]; exact h1, h2⟩
/-- slots forgotten -/
theorem Sl.wk (g : Sl B w e σ) {e' : Lo} (hl : e'.length = e.length) (h : ∀ (i : Nat) (d : D), e'[i]? = some (some d) → e[i]? = some (some d)) : Sl B w e' σ :=
  ⟨hl.trans g.le, fun i d q => g.sl i d (h i d q)⟩
theorem Sl.cut (g : Sl B w e σ) {n : Nat} (h : ∀ (i j : Nat), e[i]? = some (some (D.r j)) → j < n) : Sl B (w.take n) e σ :=
  ⟨g.le, fun i d q => let ⟨v, h1, h2⟩ := g.sl i d q; ⟨v, h1, h2.cut fun j e => h i j (by rw [← e]; exact q)⟩⟩
end
end N

namespace Z
open PySem L2 PyProof.Rows
theorem tup_mul0 (l : Addr) (items : Array Value) (n : Nat) (dd : Option Addr) (sl : Array (Option Value)) (x : Int) (u : Tok) (c0 : (decide (x < -(2 ^ 63)) || decide (x ≥ 2 ^ 63)) = false) (c1 : (items.isEmpty || x == 1) = false) (c2 : (decide (x ≤ 0) || items.isEmpty) = true) :
    PySem.Meets (Builtin.«tuple.__mul__» ⟨[.ref l, .int x u], []⟩) (fun _ R s => s.heap.get? l = some { cls := .type "tuple", dict := dd, data := .seq items n, slots := sl } ∧
      R (.ok (.ret (Value.ref s.heap.objs.size))) { s with heap := s.heap.push { cls := Value.type "tuple", data := Data.seq #[] }, toks := s.toks }) :=
  PySem.Meets.of_wp fun prog w A R s h => by
    obtain ⟨hp, g, d, tk, os⟩ := s
    obtain ⟨hl, h⟩ := h
    have f1 := AutoSeq1.idx_int
    wp_walk using wpAny_loadPart' hl
    repeat (first
      | (refine wpAny_ite_false (decide_eq_false (by rw [c0]; exact Bool.false_ne_true)) ?_; wp_walk using wpAny_loadPart' hl)
      | (refine wpAny_ite_false (decide_eq_false (by rw [c1]; exact Bool.false_ne_true)) ?_; wp_walk using wpAny_loadPart' hl)
      | (refine wpAny_ite_true (decide_eq_true (by rw [c2])) ?_; wp_walk using wpAny_loadPart' hl))
    exact ⟨_, rfl, h⟩
section
variable {X : Cx}
def rRep0 (K : PySem.W.Frag) : R2 := fun x y H Q => ∃ l k xs, x = V.ref l ∧ y = V.int k ∧ SqT K H l xs ∧ xs ≠ [] ∧ k ≤ 0 ∧ -1000 ≤ k ∧ ∀ p, H p = none → Q (.ref p) (upd H p (.tup []))
theorem op_rep0 : OpR X (binaryOp .Mult) (rRep0 X.K) := by
  intro pins s σ H x y v u Q I rx ry h
  obtain ⟨l, k, xs, rfl, rfl, hT, hne, h1, h2, q⟩ := h
  cases rx
  obtain ⟨t, rfl⟩ := ry
  obtain ⟨its, r, ⟨⟨cls, dd, data, sl⟩, ho, hc, n, hd⟩, hs⟩ := I.tuple hT
  simp only at hc hd
  subst hc hd
  have hle : its.length = xs.length := r.length.symm
  have hi : its.toArray.isEmpty = false := by
    cases its with
    | nil => exact absurd (List.eq_nil_of_length_eq_zero hle.symm) hne
    | cons a b => rfl
  have c0 : (decide (k < -(2 ^ 63)) || decide (k ≥ 2 ^ 63)) = false := by
    rw [decide_eq_false (by omega), decide_eq_false (by omega)] <;> rfl
  have c1 : (its.toArray.isEmpty || k == 1) = false := by
    rw [hi, Bool.false_or]
    exact beq_eq_false_iff_ne.mpr (by omega)
  have c2 : (decide (k ≤ 0) || its.toArray.isEmpty) = true := by
    rw [decide_eq_true h1, Bool.true_or]
  refine wpAny_binaryOp_repeat_ref (T := "tuple") (U := "int") (by decide) ⟨_, ho, rfl⟩ (fun s' => typeIs_int s' k t) noFill_tuple_mul F.fills_int_mul F.slot_int_rmul repeat_tuple F.slot_int_index.lookup
    (call_meets F.slot_int_rmul (typeIs_int s k t) F.entry_int_rmul (F.args_int_rmul_2 _ _) (int_rmul_tuple k t l its.toArray n dd sl)
      ⟨ho, rfl, ⟨_, ho, rfl⟩, call_meets F.slot_tuple_mul ⟨_, ho, rfl⟩ F.entry_tuple_mul (F.args_tuple_mul_2 _ _) (tup_mul0 l its.toArray n dd sl k t c0 c1 c2) ⟨ho, ?_⟩⟩)
  refine ⟨.ref s.heap.objs.size, _, I.laid (t' := s.toks) (o := .tup []) (fun b ob q => Heap.get?_push_of_some _ q) (Nat.le_refl _) ?_, rfl, q _ (I.hok.fresh (Nat.le_refl _))⟩
  exact ⟨by simp, [], .nil, IsTup.new _ _⟩
end
end Z

namespace N
open PySem L2 PyProof.Rows
open Z (Ext dpUp dpsUp dpsLen dpsGet DxO KyD DEn)

abbrev ME := Lo → Sto → Option (D × Sto)
abbrev MT := Lo → Sto → Option (Bool × Sto)
abbrev MA := Lo → Sto → Option (List D × Sto)
abbrev MO := Lo → Sto → Option (Option Int × Sto)
abbrev ba (X : Cx) : Ba := ⟨X.prog, X.w, X.K⟩
def tE (B : Ba) (e : Lo) (s : Sto) (d : D) (s' : Sto) : TE := fun σ H Q => ∃ w, Ok B w s H ∧ Sl B w e σ ∧ ∀ v w' H', w.le w' → Ok B w' s' H' → VR B w' v d → Q v H'
def tT (B : Ba) (e : Lo) (s : Sto) (b : Bool) (s' : Sto) : TT := fun σ H Q => ∃ w, Ok B w s H ∧ Sl B w e σ ∧ ∀ w' H', w.le w' → Ok B w' s' H' → Q b H'
def tA (B : Ba) (e : Lo) (s : Sto) (ds : List D) (s' : Sto) : TA := fun σ H Q => ∃ w, Ok B w s H ∧ Sl B w e σ ∧ ∀ vs w' H', w.le w' → Ok B w' s' H' → VRs B w' vs ds → Q vs H'
def tO (B : Ba) (e : Lo) (s : Sto) (o : Option Int) (s' : Sto) : TO := fun σ H Q => ∃ w, Ok B w s H ∧ Sl B w e σ ∧ ∀ w' H', w.le w' → Ok B w' s' H' → Q o H'
def NE (X : Cx) (ex : Expr) (m : ME) : Prop := ∀ e s d s', m e s = some (d, s') → PE X ex (tE (ba X) e s d s')
def NT (X : Cx) (ex : Expr) (m : MT) : Prop := ∀ e s b s', m e s = some (b, s') → PT X ex (tT (ba X) e s b s')
def NW (X : Cx) (ex : Expr) (m : MT) : Prop := ∀ e s b s', m e s = some (b, s') → PW X ex (tT (ba X) e s b s')
def NA (X : Cx) (es : List Expr) (m : MA) : Prop := ∀ e s ds s', m e s = some (ds, s') → PA X es (tA (ba X) e s ds s')
def NO (X : Cx) (o : Option Expr) (m : MO) : Prop := ∀ e s i s', m e s = some (i, s') → PO X o (tO (ba X) e s i s')
section
variable {X : Cx} {ex a b c : Expr} {es : List Expr} {m ma mb mc : ME} {pos p : Pos}
theorem PE.imp {e : Expr} {t t' : TE} (h : PE X e t) (i : ∀ σ H Q, t' σ H Q → t σ H Q) : PE X e t' := Z.PE.imp h i
theorem PT.imp {e : Expr} {t t' : TT} (h : PT X e t) (i : ∀ σ H Q, t' σ H Q → t σ H Q) : PT X e t' := Z.PT.imp h i
theorem PW.imp {e : Expr} {t t' : TT} (h : PW X e t) (i : ∀ σ H Q, t' σ H Q → t σ H Q) : PW X e t' := Z.PW.imp h i
theorem PA.imp {t t' : TA} (h : PA X es t) (i : ∀ σ H Q, t' σ H Q → t σ H Q) : PA X es t' := Z.PA.imp h i
theorem NE.fam (h : NE X ex m) : PE X ex (fun σ H Q => ∃ e s d s', m e s = some (d, s') ∧ tE (ba X) e s d s' σ H Q) :=
  ⟨fun pins sh σ H Q I ⟨e, s, d, s', hm, q⟩ => (h e s d s' hm).run pins sh σ H Q I q⟩
theorem NT.fam {m : MT} (h : NT X ex m) : PT X ex (fun σ H Q => ∃ e s d s', m e s = some (d, s') ∧ tT (ba X) e s d s' σ H Q) :=
  ⟨fun pins sh σ H Q I ⟨e, s, d, s', hm, q⟩ => (h e s d s' hm).run pins sh σ H Q I q⟩
theorem NW.fam {m : MT} (h : NW X ex m) : PW X ex (fun σ H Q => ∃ e s d s', m e s = some (d, s') ∧ tT (ba X) e s d s' σ H Q) :=
  ⟨fun w pins sh σ H Q I ⟨e, s, d, s', hm, q⟩ => (h e s d s' hm).run w pins sh σ H Q I q⟩
theorem NA.fam {m : MA} (h : NA X es m) : PA X es (fun σ H Q => ∃ e s d s', m e s = some (d, s') ∧ tA (ba X) e s d s' σ H Q) :=
  ⟨fun pos pins sh σ H Q I ⟨e, s, d, s', hm, q⟩ => (h e s d s' hm).run pos pins sh σ H Q I q⟩

def eVar (i : Nat) : ME := fun e s => match e[i]? with
  | some (some d) => some (d, s)
  | _ => none
def eC (x : PyData) : ME := fun _ s => some (.d x, s)
theorem n_var (i : Nat) {x : Str} (hN : X.N[i]? = some x := by rfl) (hv : Vis X.env.scope x := by first | exact Or.inl rfl | exact Or.inr (Or.inl rfl) | exact Or.inr (Or.inr rfl))
    (hd : (x == ("__debug__" : Str)) = false := by decide) (hcd : (x == ("__classdict__" : Str)) = false := by decide) : NE X (.Name x pos) (eVar i) := fun e s d s' h => by
  unfold eVar at h
  split at h
  · rename_i d' hd'
    cases h
    refine PE.imp (pe_var hN hv hd hcd) fun σ H Q ⟨w, g, l, q⟩ => ?_
    obtain ⟨v, h1, h2⟩ := l.sl i d hd'
    exact ⟨v, h1, q v w H (W.le.refl w) g h2⟩
  · cases h
theorem flat_vr {B : Ba} {w : W} {v : V} {x : PyData} (f : Z.flat v x) : VR B w v (.d x) := Z.flatDp f
theorem n_int {i : Int} {j : Nat} : NE X (.Constant (.int i) j pos) (eC (.int i)) := fun e s d s' h => by
  cases h
  exact PE.imp pe_int fun σ H Q ⟨w, g, l, q⟩ => q _ w H (W.le.refl w) g (flat_vr (show Z.flat (.int i) (.int i) from rfl))
theorem n_bl {i : Bool} {j : Nat} : NE X (.Constant (.bool i) j pos) (eC (.bool i)) := fun e s d s' h => by
  cases h
  exact PE.imp pe_bl fun σ H Q ⟨w, g, l, q⟩ => q _ w H (W.le.refl w) g (flat_vr (show Z.flat (.bl i) (.bool i) from rfl))
theorem n_str {i : Str} {j : Nat} : NE X (.Constant (.str i) j pos) (eC (.str i)) := fun e s d s' h => by
  cases h
  exact PE.imp pe_str fun σ H Q ⟨w, g, l, q⟩ => q _ w H (W.le.refl w) g (flat_vr (show Z.flat (.str i) (.str i) from rfl))
theorem n_non {j : Nat} : NE X (.Constant .none j pos) (eC .none) := fun e s d s' h => by
  cases h
  exact PE.imp pe_non fun σ H Q ⟨w, g, l, q⟩ => q _ w H (W.le.refl w) g (flat_vr (show Z.flat .non .none from trivial))
def aNil : MA := fun _ s => some ([], s)
def aCons (m : ME) (ms : MA) : MA := fun e s => match m e s with
  | some (d, s1) => match ms e s1 with
    | some (ds, s2) => some (d :: ds, s2)
    | none => none
  | none => none
theorem n_nil : NA X [] aNil := fun e s d s' h => by
  cases h
  exact PA.imp pa_nil fun σ H Q ⟨w, g, l, q⟩ => q [] w H (W.le.refl w) g trivial
theorem n_cons {ms : MA} (h1 : NE X ex m) (h2 : NA X es ms) (hs : starEach (ex :: es) X.env = (false, eval ex X.env) :: starEach es X.env := by rfl) : NA X (ex :: es) (aCons m ms) := fun e s ds s' h => by
  unfold aCons at h
  split at h
  · rename_i d s1 e1
    split at h
    · rename_i ds' s2 e2
      cases h
      refine PA.imp (pa_cons (h1 _ _ _ _ e1) (h2 _ _ _ _ e2) hs) fun σ H Q ⟨w, g, l, q⟩ => ⟨w, g, l, fun v w1 H1 l1 g1 v1 => ⟨w1, g1, l.up l1, fun vs w2 H2 l2 g2 v2 => ?_⟩⟩
      exact q (v :: vs) w2 H2 (l1.trans l2) g2 ⟨v1.up l2, v2⟩
    · cases h
  · cases h

def data : List D → Option (List PyData)
  | [] => some []
  | .d x :: r => match data r with
    | some xs => some (x :: xs)
    | none => none
  | .r _ :: _ => none
theorem data_map (xs : List PyData) : data (xs.map .d) = some xs := by
  induction xs with
  | nil => rfl
  | cons x xs ih => rw [List.map_cons]; unfold data; rw [ih]
theorem data_eq : ∀ {ds : List D} {xs : List PyData}, data ds = some xs → ds = xs.map .d
  | [], xs, h => by cases h; rfl
  | .d x :: r, xs, h => by
    unfold data at h
    split at h
    · rename_i ys e
      cases h
      rw [data_eq e]; rfl
    · cases h
  | .r _ :: _, _, h => by cases h
abbrev lim : Nat := 1000000
theorem lim_lt : lim < sizeLine := by decide
/-- a new list: kept for good, or an object of the store -/
def mkL (own : Bool) (s : Sto) (ds : List D) : Option (D × Sto) :=
  if own then some (.r s.length, s ++ [.lst ds]) else match data ds with
    | some xs => some (.d (.list xs), s)
    | none => none
theorem mkL_ok {B : Ba} {w : W} {s s' : Sto} {H : Hp} {own : Bool} {ds : List D} {d : D} {vs : List V} {q : Addr} (h : mkL own s ds = some (d, s')) (g : Ok B w s H) (hq : H q = none) (hv : VRs B w vs ds) :
    ∃ w', w.le w' ∧ Ok B w' s' (upd H q (.lst vs)) ∧ VR B w' (.ref q) d := by
  unfold mkL at h
  split at h
  · cases h
    exact ⟨_, Ok.new_le, g.new hq ⟨ext_none g.ext hq, vs, upd_same, hv.up Ok.new_le⟩, g.new_at⟩
  · split at h
    · rename_i xs e
      cases h
      rw [data_eq e] at hv
      exact ⟨_, g.frz_le hq, g.frz hq, .lst (.of upd_same) (dpsUp (Ext.up (ext_none g.ext hq)) _ _ (VRs.data.mp hv))⟩
    · cases h
def eTup (ms : MA) : ME := fun e s => match ms e s with
  | some (ds, s1) => match data ds with
    | some xs => if xs.length ≤ lim then some (.d (.tuple xs), s1) else none
    | none => none
  | none => none
def eLst (own : Bool) (ms : MA) : ME := fun e s => match ms e s with
  | some (ds, s1) => if ds.length ≤ lim then mkL own s1 ds else none
  | none => none
theorem tup_ok {B : Ba} {w : W} {s : Sto} {H : Hp} {xs : List PyData} {vs : List V} {q : Addr} (g : Ok B w s H) (hq : H q = none) (hv : DpAll B.K w.F vs xs) :
    ∃ w', w.le w' ∧ Ok B w' s (upd H q (.tup vs)) ∧ VR B w' (.ref q) (.d (.tuple xs)) :=
  ⟨_, g.frz_le hq, g.frz hq, .tup (.of upd_same) (dpsUp (Ext.up (ext_none g.ext hq)) _ _ hv)⟩
theorem n_tup {k : Nat} {ms : MA} (h : NA X es ms) : NE X (.Tuple es k pos) (eTup ms) := fun e s d s' hm => by
  unfold eTup at hm
  split at hm
  · rename_i ds s1 e1
    split at hm
    · rename_i xs e2
      split at hm
      · rename_i hl
        cases hm
        refine PE.imp (pe_tup (h _ _ _ _ e1)) fun σ H Q ⟨w, g, l, q⟩ => ⟨w, g, l, fun vs w1 H1 l1 g1 v1 => ?_⟩
        rw [data_eq e2] at v1
        have hd := VRs.data.mp v1
        refine ⟨by rw [dpsLen hd]; exact Nat.le_trans hl (Nat.le_of_lt lim_lt), fun q' hq => ?_⟩
        obtain ⟨w2, l2, g2, v2⟩ := tup_ok g1 hq hd
        exact q _ w2 _ (l1.trans l2) g2 v2
      · cases hm
    · cases hm
  · cases hm
theorem n_lst {own : Bool} {ms : MA} (h : NA X es ms) : NE X (.List es pos) (eLst own ms) := fun e s d s' hm => by
  unfold eLst at hm
  split at hm
  · rename_i ds s1 e1
    split at hm
    · rename_i hl
      refine PE.imp (pe_lst (h _ _ _ _ e1)) fun σ H Q ⟨w, g, l, q⟩ => ⟨w, g, l, fun vs w1 H1 l1 g1 v1 => ?_⟩
      refine ⟨by rw [v1.len]; exact Nat.le_trans hl (Nat.le_of_lt lim_lt), fun q' hq => ?_⟩
      obtain ⟨w2, l2, g2, v2⟩ := mkL_ok hm g1 hq v1
      exact q _ w2 _ (l1.trans l2) g2 v2
    · cases hm
  · cases hm

def asL (s : Sto) : D → Option (List D)
  | .d (.list xs) => some (xs.map .d)
  | .r j => match s[j]? with
    | some (.lst ds) => some ds
    | _ => none
  | _ => none
def pd (s : Sto) : D → Option PyData
  | .d x => some x
  | .r j => match s[j]? with
    | some (.lst ds) => match data ds with
      | some xs => some (.list xs)
      | none => none
    | _ => none
section
variable {B : Ba} {w : W} {s : Sto} {H : Hp} {v : V} {d : D}
theorem asL_ok {ds : List D} (h : asL s d = some ds) (g : Ok B w s H) (hv : VR B w v d) : ∃ p vs, v = .ref p ∧ SqL B.K H p vs ∧ VRs B w vs ds := by
  unfold asL at h
  split at h
  · cases h
    cases hv with
    | lst hs ha => exact ⟨_, _, rfl, g.ext.l hs, VRs.data.mpr ha⟩
  · split at h
    · rename_i j ds' e
      cases h
      obtain ⟨a, h1, rfl⟩ := hv
      obtain ⟨_, vs, h2, h3⟩ := g.ce _ _ a e h1
      exact ⟨a, vs, rfl, .of h2, h3⟩
    · cases h
  · cases h
theorem pd_ok {x : PyData} (h : pd s d = some x) (g : Ok B w s H) (hv : VR B w v d) : Dp B.K H v x := by
  unfold pd at h
  split at h
  · cases h
    exact dpUp g.ext _ _ hv
  · split at h
    · rename_i j ds e
      split at h
      · rename_i xs e2
        cases h
        obtain ⟨a, h1, rfl⟩ := hv
        obtain ⟨_, vs, h2, h3⟩ := g.ce _ _ a e h1
        rw [data_eq e2] at h3
        exact .lst (.of h2) (dpsUp g.ext _ _ (VRs.data.mp h3))
      · cases h
    · cases h
theorem vr_int {i : Int} (h : VR B w v (.d (.int i))) : v = .int i := by cases h; rfl
theorem vr_bl {i : Bool} (h : VR B w v (.d (.bool i))) : v = .bl i := by cases h; rfl
theorem vr_str {i : Str} (h : VR B w v (.d (.str i))) : v = .str i := by cases h; rfl
theorem vr_non (h : VR B w v (.d .none)) : v = .non := by cases h; rfl
theorem vi {i : Int} : VR B w (.int i) (.d (.int i)) := flat_vr (show Z.flat (.int i) (.int i) from rfl)
theorem vb {i : Bool} : VR B w (.bl i) (.d (.bool i)) := flat_vr (show Z.flat (.bl i) (.bool i) from rfl)
theorem vs' {i : Str} : VR B w (.str i) (.d (.str i)) := flat_vr (show Z.flat (.str i) (.str i) from rfl)
theorem vn : VR B w .non (.d .none) := flat_vr (show Z.flat .non .none from trivial)
end

def BiN (B : Ba) (q : R2) (s : Sto) (a b z : D) (s' : Sto) : Prop := ∀ u v w H Q, Ok B w s H → VR B w u a → VR B w v b → (∀ x w' H', w.le w' → Ok B w' s' H' → VR B w' x z → Q x H') → q u v H Q
abbrev FB := Sto → D → D → Option (D × Sto)
def OpS (X : Cx) (op : Operator) (f : FB) : Prop := ∀ s a b z s', f s a b = some (z, s') → ∃ q, OpR X (binaryOp op) q ∧ BiN (ba X) q s a b z s'
def eBin (f : FB) (ma mb : ME) : ME := fun e s => match ma e s with
  | some (a, s1) => match mb e s1 with
    | some (b, s2) => f s2 a b
    | none => none
  | none => none
theorem bin_cases {f : FB} {e : Lo} {s s' : Sto} {z : D} (h : eBin f ma mb e s = some (z, s')) : ∃ a s1 b s2, ma e s = some (a, s1) ∧ mb e s1 = some (b, s2) ∧ f s2 a b = some (z, s') := by
  unfold eBin at h
  split at h
  · rename_i a s1 e1
    split at h
    · rename_i b s2 e2
      exact ⟨a, s1, b, s2, e1, e2, h⟩
    · cases h
  · cases h
theorem bi_run {q : R2} {e : Lo} {s s1 s2 s3 : Sto} {x y z : D} (hq : BiN (ba X) q s2 x y z s3) : ∀ σ H Q, tE (ba X) e s z s3 σ H Q → tOp q (tE (ba X) e s x s1) (tE (ba X) e s1 y s2) σ H Q := fun σ H Q ⟨w, g, l, k⟩ =>
  ⟨w, g, l, fun u w1 H1 l1 g1 v1 => ⟨w1, g1, l.up l1, fun v w2 H2 l2 g2 v2 => hq u v w2 H2 Q g2 (v1.up l2) v2 fun x w3 H3 l3 g3 v3 => k x w3 H3 ((l1.trans l2).trans l3) g3 v3⟩⟩
theorem n_bin {op : Operator} {f : FB} (ho : OpS X op f) (ha : NE X a ma) (hb : NE X b mb) : NE X (.BinOp a op b pos) (eBin f ma mb) := fun e s z s' h => by
  obtain ⟨x, s1, y, s2, e1, e2, e3⟩ := bin_cases h
  obtain ⟨q, hq, hB⟩ := ho _ _ _ _ _ e3
  exact PE.imp (pe_op hq (ha _ _ _ _ e1) (hb _ _ _ _ e2)) (bi_run hB)
theorem BiN.int {B : Ba} {f : Int → Int → V} {i j : Int} {z : PyData} {s : Sto} (hz : Z.flat (f i j) z) : BiN B (rI0 f) s (.d (.int i)) (.d (.int j)) (.d z) s := fun u v w H Q g h1 h2 k => by
  cases vr_int h1
  cases vr_int h2
  exact ⟨i, j, rfl, rfl, k _ w H (W.le.refl w) g (flat_vr hz)⟩
theorem BiN.intC {B : Ba} {C : Int → Int → Prop} {f : Int → Int → V} {i j : Int} {z : PyData} {s : Sto} (hc : C i j) (hz : Z.flat (f i j) z) : BiN B (rI C f) s (.d (.int i)) (.d (.int j)) (.d z) s := fun u v w H Q g h1 h2 k => by
  cases vr_int h1
  cases vr_int h2
  exact ⟨i, j, rfl, rfl, hc, k _ w H (W.le.refl w) g (flat_vr hz)⟩
def i2 (f : Int → Int → Option Int) : FB := fun s a b => match a, b with
  | .d (.int i), .d (.int j) => match f i j with
    | some k => some (.d (.int k), s)
    | none => none
  | _, _ => none
theorem i2_cases {f : Int → Int → Option Int} {s s' : Sto} {a b z : D} (h : i2 f s a b = some (z, s')) : ∃ i j k, a = .d (.int i) ∧ b = .d (.int j) ∧ f i j = some k ∧ z = .d (.int k) ∧ s' = s := by
  unfold i2 at h
  split at h
  · rename_i i j
    split at h
    · rename_i k e
      cases h
      exact ⟨i, j, k, rfl, rfl, e, rfl, rfl⟩
    · cases h
  · cases h
def oSub : FB := i2 fun i j => some (i - j)
def oXor : FB := i2 fun i j => some (Builtin.bitXor i j)
def oAnd : FB := i2 fun i j => some (Builtin.bitAnd i j)
def oDiv : FB := i2 fun i j => if 0 < j ∧ j.natAbs.log2 < 9000 then some (i / j) else none
def oMod : FB := i2 fun i j => if 0 < j then some (i % j) else none
def oShl : FB := i2 fun i j => if 0 ≤ j ∧ j ≤ 1000000 ∧ i.natAbs < 2 ^ 64 then some (i * 2 ^ j.toNat) else none
def oShr : FB := i2 fun i j => if 0 ≤ j then some (i / 2 ^ j.toNat) else none
theorem op0 {op : Operator} {f : Int → Int → Int} (h : OpR X (binaryOp op) (rI0 fun i j => .int (f i j))) : OpS X op (i2 fun i j => some (f i j)) := fun s a b z s' e => by
  obtain ⟨i, j, k, rfl, rfl, e1, rfl, rfl⟩ := i2_cases e
  cases e1
  exact ⟨_, h, BiN.int (show Z.flat (.int _) (.int _) from rfl)⟩
theorem opC {op : Operator} {f : Int → Int → Int} {C : Int → Int → Prop} {c : Int → Int → Prop} [∀ i j, Decidable (c i j)] (h : OpR X (binaryOp op) (rI C fun i j => .int (f i j))) (hc : ∀ i j, c i j → C i j) : OpS X op (i2 fun i j => if c i j then some (f i j) else none) := fun s a b z s' e => by
  obtain ⟨i, j, k, rfl, rfl, e1, rfl, rfl⟩ := i2_cases e
  split at e1
  · cases e1
    exact ⟨_, h, BiN.intC (hc i j ‹_›) (show Z.flat (.int _) (.int _) from rfl)⟩
  · cases e1
theorem o_sub : OpS X .Sub oSub := op0 op_sub
theorem o_xor : OpS X .BitXor oXor := op0 op_xor
theorem o_and : OpS X .BitAnd oAnd := op0 op_and
theorem o_div : OpS X .FloorDiv oDiv := opC op_fdivW fun i j h => h
theorem o_mod : OpS X .Mod oMod := opC op_mod fun i j h => h
theorem o_shl : OpS X .LShift oShl := opC op_shl fun i j h => h
theorem o_shr : OpS X .RShift oShr := opC op_shr fun i j h => h
/-- + : numbers, texts, tuples, lists -/
def oAdd (own : Bool) : FB := fun s a b => match a, b with
  | .d (.int i), .d (.int j) => some (.d (.int (i + j)), s)
  | .d (.tuple xs), .d (.tuple ys) => if xs.length + ys.length ≤ lim then some (.d (.tuple (xs ++ ys)), s) else none
  | .d (.str x), .d (.str y) => if x.length + y.length ≤ lim then some (.d (.str (x ++ y)), s) else none
  | a, b => match asL s a with
    | some ds => match asL s b with
      | some es => if ds.length + es.length ≤ lim then mkL own s (ds ++ es) else none
      | none => none
    | none => none
theorem dp_tup {K : PySem.W.Frag} {F : Hp} {v : V} {xs : List PyData} (h : Dp K F v (.tuple xs)) : ∃ a vs, v = .ref a ∧ SqT K F a vs ∧ DpAll K F vs xs := by
  cases h with
  | tup h1 h2 => exact ⟨_, _, rfl, h1, h2⟩
theorem o_add {own : Bool} : OpS X .Add (oAdd own) := fun s a b z s' e => by
  unfold oAdd at e
  split at e
  · cases e
    exact ⟨_, op_add, BiN.int (show Z.flat (.int _) (.int _) from rfl)⟩
  · rename_i xs ys
    split at e
    · rename_i hl
      cases e
      refine ⟨_, op_catA, fun u v w H Q g h1 h2 k => ?_⟩
      obtain ⟨a, us, rfl, t1, d1⟩ := dp_tup h1
      obtain ⟨b, vs, rfl, t2, d2⟩ := dp_tup h2
      refine ⟨a, b, us, vs, rfl, rfl, g.ext.t t1, g.ext.t t2, by rw [dpsLen d1, dpsLen d2]; exact Nat.le_trans hl (Nat.le_of_lt lim_lt), fun e => ?_, fun _ e => ?_, fun _ _ p hp => ?_⟩
      · subst e
        cases d1
        exact k _ w H (W.le.refl w) g h2
      · subst e
        cases d2
        exact k _ w H (W.le.refl w) g (by rw [List.append_nil]; exact h1)
      · obtain ⟨w', l, g', v'⟩ := tup_ok g hp (Z.dpsApp d1 d2)
        exact k _ w' _ l g' v'
    · cases e
  · rename_i x y
    split at e
    · rename_i hl
      cases e
      refine ⟨_, op_add_str, fun u v w H Q g h1 h2 k => ?_⟩
      cases vr_str h1
      cases vr_str h2
      exact ⟨x, y, rfl, rfl, Nat.le_trans hl (Nat.le_of_lt lim_lt), k _ w H (W.le.refl w) g vs'⟩
    · cases e
  · split at e
    · rename_i ds e1
      split at e
      · rename_i es e2
        split at e
        · rename_i hl
          refine ⟨_, Z.op_catQ, fun u v w H Q g h1 h2 k => ?_⟩
          obtain ⟨p1, us, rfl, q1, r1⟩ := asL_ok e1 g h1
          obtain ⟨p2, vs, rfl, q2, r2⟩ := asL_ok e2 g h2
          refine ⟨p1, p2, us, vs, rfl, rfl, q1, q2, by rw [r1.len, r2.len]; exact Nat.le_trans hl (Nat.le_of_lt lim_lt), fun p hp => ?_⟩
          obtain ⟨w', l, g', v'⟩ := mkL_ok e g hp (r1.app r2)
          exact k _ w' _ l g' v'
        · cases e
      · cases e
    · cases e
theorem flat_rep {α β : Type} (R : List α → List β → Prop) (h0 : R [] []) (hA : ∀ {a b c d}, R a c → R b d → R (a ++ b) (c ++ d)) {xs : List α} {ys : List β} (h : R xs ys) : ∀ n : Nat, R (List.replicate n xs).flatten (List.replicate n ys).flatten
  | 0 => h0
  | n + 1 => by
    rw [List.replicate_succ, List.replicate_succ, List.flatten_cons, List.flatten_cons]
    exact hA h (flat_rep R h0 hA h n)
/-- * : numbers, a tuple some times -/
def oMul : FB := fun s a b => match a, b with
  | .d (.int i), .d (.int j) => if ((-(2 ^ 64) < i ∧ i < 2 ^ 64) ∨ (-(2 ^ 64) < j ∧ j < 2 ^ 64)) ∨ i.natAbs.log2 + j.natAbs.log2 < 1000000 then some (.d (.int (i * j)), s) else none
  | .d (.tuple xs), .d (.int k) => if xs ≠ [] ∧ 1 ≤ k ∧ k ≤ 1000 ∧ xs.length ≤ 1000 then some (.d (.tuple (List.replicate k.toNat xs).flatten), s) else if xs ≠ [] ∧ k ≤ 0 ∧ -1000 ≤ k then some (.d (.tuple []), s) else none
  | _, _ => none
theorem o_mul : OpS X .Mult oMul := fun s a b z s' e => by
  unfold oMul at e
  split at e
  · split at e
    · rename_i hc
      cases e
      rcases hc with hc | hc
      · exact ⟨_, op_mul, BiN.intC hc (show Z.flat (.int _) (.int _) from rfl)⟩
      · exact ⟨_, op_mulW, BiN.intC hc (show Z.flat (.int _) (.int _) from rfl)⟩
    · cases e
  · rename_i xs k'
    split at e
    · rename_i hl
      cases e
      obtain ⟨h1, h2, h3, h4⟩ := hl
      refine ⟨_, Z.op_repQ, fun u v w H Q g q1 q2 k => ?_⟩
      obtain ⟨a, us, rfl, t1, d1⟩ := dp_tup q1
      cases vr_int q2
      refine ⟨a, k', us, rfl, rfl, g.ext.t t1, fun e => h1 (by subst e; cases d1; rfl), h2, h3, by rw [dpsLen d1]; exact h4, fun e => ?_, fun _ p hp => ?_⟩
      · subst e
        refine k _ w H (W.le.refl w) g ?_
        show Dp _ _ _ (.tuple (List.replicate 1 xs).flatten)
        rw [List.replicate_succ, List.replicate_zero, List.flatten_cons, List.flatten_nil, List.append_nil]
        exact q1
      · obtain ⟨w', l, g', v'⟩ := tup_ok g hp (flat_rep (fun vs xs => DpAll _ w.F vs xs) .nil (fun a b => Z.dpsApp a b) d1 k'.toNat)
        exact k _ w' _ l g' v'
    · split at e
      · rename_i hl
        cases e
        obtain ⟨h1, h2, h3⟩ := hl
        refine ⟨_, Z.op_rep0, fun u v w H Q g q1 q2 k => ?_⟩
        obtain ⟨a, us, rfl, t1, d1⟩ := dp_tup q1
        cases vr_int q2
        refine ⟨a, k', us, rfl, rfl, g.ext.t t1, fun e => h1 (by subst e; cases d1; rfl), h2, h3, fun p hp => ?_⟩
        obtain ⟨w', l, g', v'⟩ := tup_ok (xs := []) (vs := []) g hp .nil
        exact k _ w' _ l g' v'
      · cases e
  · cases e
def eNeg (m : ME) : ME := fun e s => match m e s with
  | some (.d (.int i), s1) => some (.d (.int (-i)), s1)
  | _ => none
theorem n_neg (h : NE X a m) : NE X (.UnaryOp .USub a pos) (eNeg m) := fun e s d s' hm => by
  unfold eNeg at hm
  split at hm
  · rename_i i s1 e1
    cases hm
    refine PE.imp (pe_un un_neg (h _ _ _ _ e1)) fun σ H Q ⟨w, g, l, q⟩ => ⟨w, g, l, fun v w1 H1 l1 g1 v1 => ?_⟩
    cases vr_int v1
    exact ⟨i, rfl, q _ w1 H1 l1 g1 vi⟩
  · cases hm

abbrev FC := Sto → D → D → Option Bool
def CmpS (X : Cx) (op : CmpOp) (f : FC) : Prop := ∀ s a b k, f s a b = some k → ∃ q, OpR X (compareOp op) q ∧ BiN (ba X) q s a b (.d (.bool k)) s
def eCmp (f : FC) : ME → ME → ME := eBin fun s a b => match f s a b with
  | some k => some (.d (.bool k), s)
  | none => none
def tCmp (f : FC) (ma mb : ME) : MT := fun e s => match ma e s with
  | some (a, s1) => match mb e s1 with
    | some (b, s2) => match f s2 a b with
      | some k => some (k, s2)
      | none => none
    | none => none
  | none => none
theorem n_cmp {op : CmpOp} {f : FC} (ho : CmpS X op f) (ha : NE X a ma) (hb : NE X b mb) (hm : behindInMarks op b = false := by first | exact nomark _ | rfl) : NE X (.Compare a [op] [b] pos) (eCmp f ma mb) := fun e s z s' h => by
  obtain ⟨x, s1, y, s2, e1, e2, e3⟩ := bin_cases h
  split at e3
  · rename_i k ek
    cases e3
    obtain ⟨q, hq, hB⟩ := ho _ _ _ _ ek
    exact PE.imp (pe_cmpR hq (ha _ _ _ _ e1) (hb _ _ _ _ e2) hm) (bi_run hB)
  · cases e3
theorem nt_cmp {op : CmpOp} {f : FC} (ho : CmpS X op f) (ha : NE X a ma) (hb : NE X b mb) (hm : behindInMarks op b = false := by first | exact nomark _ | rfl) : NT X (.Compare a [op] [b] pos) (tCmp f ma mb) := fun e s k s' h => by
  unfold tCmp at h
  split at h
  · rename_i x s1 e1
    split at h
    · rename_i y s2 e2
      split at h
      · rename_i k' ek
        cases h
        obtain ⟨q, hq, hB⟩ := ho _ _ _ _ ek
        refine PT.imp (pt_cmpR hq (ha _ _ _ _ e1) (hb _ _ _ _ e2) hm) fun σ H Q ⟨w, g, l, q'⟩ => ?_
        refine bi_run hB σ H _ ⟨w, g, l, fun v w' H' l' g' v' => ?_⟩
        exact ⟨k, vr_bl v', q' w' H' l' g'⟩
      · cases h
    · cases h
  · cases h
def c2 (f : Int → Int → Bool) : FC := fun _ a b => match a, b with
  | .d (.int i), .d (.int j) => some (f i j)
  | _, _ => none
def cLt : FC := c2 fun i j => decide (i < j)
def cLe : FC := c2 fun i j => decide (i ≤ j)
def cGt : FC := c2 fun i j => decide (j < i)
def cGe : FC := c2 fun i j => decide (j ≤ i)
theorem c2_ok {op : CmpOp} {f : Int → Int → Bool} (h : OpR X (compareOp op) (rI0 fun i j => .bl (f i j))) : CmpS X op (c2 f) := fun s a b k e => by
  unfold c2 at e
  split at e
  · cases e
    exact ⟨_, h, BiN.int (show Z.flat (.bl _) (.bool _) from rfl)⟩
  · cases e
theorem c_lt : CmpS X .Lt cLt := c2_ok op_lt
theorem c_gt : CmpS X .Gt cGt := c2_ok op_gt
theorem c_ge : CmpS X .GtE cGe := c2_ok op_ge
/-- == of any data -/
def cEqv (s : Sto) (a b : D) : Option Bool := match a, b with
  | .d (.int i), .d (.int j) => some (decide (i = j))
  | a, b => match pd s a with
    | some x => match pd s b with
      | some y => if x.plain = true ∧ y.plain = true ∧ min x.depth y.depth ≤ 60 then some (PyData.eqv x y) else none
      | none => none
    | none => none
def cEq : FC := cEqv
def cNe : FC := fun s a b => match cEqv s a b with
  | some k => some (!k)
  | none => none
theorem eqv_int (i j : Int) : PyData.eqv (.int i) (.int j) = decide (i = j) := by
  simp only [PyData.eqv]
  rw [Bool.eq_iff_iff]
  simp
theorem eqv_cases {s : Sto} {a b : D} {k : Bool} (h : cEqv s a b = some k) : ∃ x y, pd s a = some x ∧ pd s b = some y ∧ x.plain = true ∧ y.plain = true ∧ min x.depth y.depth ≤ 60 ∧ k = PyData.eqv x y := by
  unfold cEqv at h
  split at h
  · rename_i i j
    cases h
    exact ⟨.int i, .int j, rfl, rfl, rfl, rfl, by simp [PyData.depth], (eqv_int i j).symm⟩
  · split at h
    · rename_i x e1
      split at h
      · rename_i y e2
        split at h
        · rename_i hc
          cases h
          exact ⟨x, y, e1, e2, hc.1, hc.2.1, hc.2.2, rfl⟩
        · cases h
      · cases h
    · cases h
theorem c_eq (hu : X.A.units + 64 < cLine) : CmpS X .Eq cEq := fun s a b k e => by
  obtain ⟨x, y, e1, e2, p1, p2, hd, rfl⟩ := eqv_cases e
  exact ⟨_, Z.op_eqZ, fun u v w H Q g h1 h2 q => ⟨x, y, pd_ok e1 g h1, pd_ok e2 g h2, p1, p2, by show X.A.units + _ < _; omega, q _ w H (W.le.refl w) g vb⟩⟩
theorem c_ne (hu : X.A.units + 64 < cLine) : CmpS X .NotEq cNe := fun s a b k e => by
  unfold cNe at e
  split at e
  · rename_i k' e'
    cases e
    obtain ⟨x, y, e1, e2, p1, p2, hd, rfl⟩ := eqv_cases e'
    exact ⟨_, Z.op_neZ, fun u v w H Q g h1 h2 q => ⟨x, y, pd_ok e1 g h1, pd_ok e2 g h2, p1, p2, by show X.A.units + _ < _; omega, q _ w H (W.le.refl w) g vb⟩⟩
  · cases e
/-- is None -/
def isNone : D → Bool
  | .d .none => true
  | _ => false
def cIsN (neg : Bool) : FC := fun s a b => match b with
  | .d .none => some (if neg then !isNone a else isNone a)
  | _ => none
theorem isNone_ok {B : Ba} {w : W} {v : V} {a : D} (h : VR B w v a) : isNone a = decide (v = .non) := by
  cases a with
  | r j => obtain ⟨p, _, rfl⟩ := h; rfl
  | d x => cases h <;> rfl
theorem c_is : CmpS X .Is (cIsN false) := fun s a b k e => by
  unfold cIsN at e
  split at e
  · cases e
    refine ⟨_, op_isN, fun u v w H Q g h1 h2 q => ?_⟩
    cases vr_non h2
    exact ⟨rfl, q _ w H (W.le.refl w) g (by rw [isNone_ok h1]; exact vb)⟩
  · cases e
end
end N

namespace N
open PySem L2 PyProof.Rows
open Z (Ext dpUp dpsUp dpsLen dpsGet DxO KyD DEn Cl cut)
section
variable {X : Cx} {ex a b c : Expr} {es : List Expr} {m ma mb mc : ME} {ms : MA} {mt mu : MT} {pos p : Pos} {f : FB}

def truD (s : Sto) : D → Option Bool
  | .d .none => some false
  | .d (.bool b) => some b
  | .d (.int i) => some (i != 0)
  | .d (.str y) => if y.length ≤ lim then some ((y.length : Int) != 0) else none
  | .d (.tuple xs) => some (!xs.isEmpty)
  | .d (.list xs) => some (!xs.isEmpty)
  | .d (.dict _) => none
  | .r j => match s[j]? with
    | some (.lst ds) => some (!ds.isEmpty)
    | some (.dk kvs) => some (!kvs.isEmpty)
    | _ => none
theorem len_empty {α β : Type} {l : List α} {m : List β} (h : l.length = m.length) : l.isEmpty = m.isEmpty := Z.empty_len h
theorem KR.len {B : Ba} {w : W} : ∀ {xs : List (Key × V)} {kvs : List (Key × D)}, KR B w xs kvs → xs.length = kvs.length
  | [], [], _ => rfl
  | v :: vs, d :: ds, ⟨h1, h2⟩ => by simp [KR.len h2]
  | [], _ :: _, h => h.elim
  | _ :: _, [], h => h.elim
theorem tru_ok {B : Ba} {w : W} {s : Sto} {H : Hp} {v : V} {d : D} {k : Bool} (h : truD s d = some k) (g : Ok B w s H) (hv : VR B w v d) : TruV B.K v H k := by
  cases d with
  | d x =>
    cases hv with
    | non => cases h; rfl
    | bl b => cases h; rfl
    | int i => cases h; rfl
    | str y =>
      have h : (if y.length ≤ lim then some ((y.length : Int) != 0) else none) = some k := h
      split at h
      · rename_i hl
        cases h
        exact ⟨Nat.le_trans hl (Nat.le_of_lt lim_lt), rfl⟩
      · cases h
    | lst hs ha => cases h; exact .inl ⟨_, g.ext.l hs, by rw [len_empty (dpsLen ha)]⟩
    | tup hs ha => cases h; exact .inr (.inl ⟨_, g.ext.t hs, by rw [len_empty (dpsLen ha)]⟩)
  | r j =>
    obtain ⟨q, h1, rfl⟩ := hv
    have h : (match s[j]? with
      | some (.lst ds) => some (!ds.isEmpty)
      | some (.dk kvs) => some (!kvs.isEmpty)
      | _ => none) = some k := h
    split at h
    · rename_i ds e
      cases h
      obtain ⟨_, vs, h2, h3⟩ := g.ce _ _ q e h1
      exact .inl ⟨_, .of h2, by rw [len_empty h3.len]⟩
    · rename_i ds e
      cases h
      obtain ⟨_, vs, h2, h3⟩ := g.ce _ _ q e h1
      exact .inr (.inr ⟨_, h2, by rw [len_empty h3.len]⟩)
    · cases h
def tVal (m : ME) : MT := fun e s => match m e s with
  | some (d, s1) => match truD s1 d with
    | some k => some (k, s1)
    | none => none
  | none => none
theorem nt_val (h : NE X ex m) (he : ∀ whole, isTrue ex X.env whole = (do let v ← whole; standAt ex.pos; holding [v] (truthy v)) := by intro _; rfl) : NT X ex (tVal m) := fun e s k s' hm => by
  unfold tVal at hm
  split at hm
  · rename_i d s1 e1
    split at hm
    · rename_i k' e2
      cases hm
      exact PT.imp (pt_truth (h _ _ _ _ e1) he) fun σ H Q ⟨w, g, l, q⟩ => ⟨w, g, l, fun v w1 H1 l1 g1 v1 => ⟨k, tru_ok e2 g1 v1, q w1 H1 l1 g1⟩⟩
    · cases hm
  · cases hm
def tNot (mt : MT) : MT := fun e s => match mt e s with
  | some (k, s1) => some (!k, s1)
  | none => none
theorem nt_not (h : NT X a mt) : NT X (.UnaryOp .Not a pos) (tNot mt) := fun e s k s' hm => by
  unfold tNot at hm
  split at hm
  · rename_i k' s1 e1
    cases hm
    exact PT.imp (pt_not (h _ _ _ _ e1)) fun σ H Q ⟨w, g, l, q⟩ => ⟨w, g, l, fun w1 H1 l1 g1 => q w1 H1 l1 g1⟩
  · cases hm
def tAnd (mt mu : MT) : MT := fun e s => match mt e s with
  | some (true, s1) => mu e s1
  | some (false, s1) => some (false, s1)
  | none => none
def tOr (mt mu : MT) : MT := fun e s => match mt e s with
  | some (false, s1) => mu e s1
  | some (true, s1) => some (true, s1)
  | none => none
theorem nw_and1 (h : NT X a mt) : NW X (.BoolOp .And [a] pos) mt := fun e s k s' hm => pw_and1 (h _ _ _ _ hm)
theorem nw_or1 (h : NT X a mt) : NW X (.BoolOp .Or [a] pos) mt := fun e s k s' hm => pw_or1 (h _ _ _ _ hm)
theorem nw_and (h1 : NT X a mt) (h2 : NW X (.BoolOp .And (b :: es) pos) mu) : NW X (.BoolOp .And (a :: b :: es) pos) (tAnd mt mu) := fun e s k s' hm => by
  unfold tAnd at hm
  split at hm
  · rename_i s1 e1
    exact PW.imp (pw_and (h1 _ _ _ _ e1) (h2 _ _ _ _ hm)) fun σ H Q ⟨w, g, l, q⟩ => ⟨w, g, l, fun w1 H1 l1 g1 => ⟨w1, g1, l.up l1, fun w2 H2 l2 g2 => q w2 H2 (l1.trans l2) g2⟩⟩
  · rename_i s1 e1
    cases hm
    exact PW.imp (pw_and (h1 _ _ _ _ e1) h2.fam) fun σ H Q ⟨w, g, l, q⟩ => ⟨w, g, l, fun w1 H1 l1 g1 => q w1 H1 l1 g1⟩
  · cases hm
theorem nw_or (h1 : NT X a mt) (h2 : NW X (.BoolOp .Or (b :: es) pos) mu) : NW X (.BoolOp .Or (a :: b :: es) pos) (tOr mt mu) := fun e s k s' hm => by
  unfold tOr at hm
  split at hm
  · rename_i s1 e1
    exact PW.imp (pw_or (h1 _ _ _ _ e1) (h2 _ _ _ _ hm)) fun σ H Q ⟨w, g, l, q⟩ => ⟨w, g, l, fun w1 H1 l1 g1 => ⟨w1, g1, l.up l1, fun w2 H2 l2 g2 => q w2 H2 (l1.trans l2) g2⟩⟩
  · rename_i s1 e1
    cases hm
    exact PW.imp (pw_or (h1 _ _ _ _ e1) h2.fam) fun σ H Q ⟨w, g, l, q⟩ => ⟨w, g, l, fun w1 H1 l1 g1 => q w1 H1 l1 g1⟩
  · cases hm
theorem nt_bo {op : BoolOp} (h : NW X (.BoolOp op es pos) mt) : NT X (.BoolOp op es pos) mt := fun e s k s' hm => PW.pt (h _ _ _ _ hm)

theorem n_one {op : BoolOp} (h : NE X a m) : NE X (.BoolOp op [a] pos) m := fun e s d s' hm => pe_one (h _ _ _ _ hm)
def eAnd (ma mb : ME) : ME := fun e s => match ma e s with
  | some (d, s1) => match truD s1 d with
    | some true => mb e s1
    | some false => some (d, s1)
    | none => none
  | none => none
def eOr (ma mb : ME) : ME := fun e s => match ma e s with
  | some (d, s1) => match truD s1 d with
    | some false => mb e s1
    | some true => some (d, s1)
    | none => none
  | none => none
theorem n_and (h1 : NE X a ma) (h2 : NE X (.BoolOp .And (b :: es) pos) mb) : NE X (.BoolOp .And (a :: b :: es) pos) (eAnd ma mb) := fun e s d s' hm => by
  unfold eAnd at hm
  split at hm
  · rename_i d1 s1 e1
    split at hm
    · rename_i e2
      refine PE.imp (pe_andT (h1 _ _ _ _ e1) (h2 _ _ _ _ hm)) fun σ H Q ⟨w, g, l, q⟩ => ⟨w, g, l, fun v w1 H1 l1 g1 v1 => ?_⟩
      exact ⟨true, tru_ok e2 g1 v1, ⟨w1, g1, l.up l1, fun v w2 H2 l2 g2 v2 => q v w2 H2 (l1.trans l2) g2 v2⟩⟩
    · rename_i e2
      cases hm
      refine PE.imp (pe_andT (h1 _ _ _ _ e1) h2.fam) fun σ H Q ⟨w, g, l, q⟩ => ⟨w, g, l, fun v w1 H1 l1 g1 v1 => ?_⟩
      exact ⟨false, tru_ok e2 g1 v1, q v w1 H1 l1 g1 v1⟩
    · cases hm
  · cases hm
def eNot (m : ME) : ME := fun e s => match m e s with
  | some (d, s1) => match truD s1 d with
    | some k => some (.d (.bool (!k)), s1)
    | none => none
  | none => none
def eIte (mt : MT) (ma mb : ME) : ME := fun e s => match mt e s with
  | some (true, s1) => ma e s1
  | some (false, s1) => mb e s1
  | none => none
theorem n_ite (hc : NT X c mt) (ha : NE X a ma) (hb : NE X b mb) : NE X (.IfExp c a b pos) (eIte mt ma mb) := fun e s d s' hm => by
  unfold eIte at hm
  split at hm
  · rename_i s1 e1
    exact PE.imp (pe_ifExp (hc _ _ _ _ e1) (ha _ _ _ _ hm) Z.pe_noway) fun σ H Q ⟨w, g, l, q⟩ => ⟨w, g, l, fun w1 H1 l1 g1 => ⟨w1, g1, l.up l1, fun v w2 H2 l2 g2 v2 => q v w2 H2 (l1.trans l2) g2 v2⟩⟩
  · rename_i s1 e1
    exact PE.imp (pe_ifExp (hc _ _ _ _ e1) Z.pe_noway (hb _ _ _ _ hm)) fun σ H Q ⟨w, g, l, q⟩ => ⟨w, g, l, fun w1 H1 l1 g1 => ⟨w1, g1, l.up l1, fun v w2 H2 l2 g2 v2 => q v w2 H2 (l1.trans l2) g2 v2⟩⟩
  · cases hm
/-- a < b < c of numbers; the last one leaves the store -/
def chK (f g : Int → Int → Bool) (ma mb mc : ME) : MT := fun e s => match ma e s with
  | some (.d (.int i), s1) => match mb e s1 with
    | some (.d (.int j), s2) => if f i j then match mc e s2 with
        | some (.d (.int k), s3) => some (g j k, s3)
        | _ => none
      else some (false, s2)
    | _ => none
  | _ => none
def eCh (f g : Int → Int → Bool) (ma mb mc : ME) : ME := fun e s => match chK f g ma mb mc e s with
  | some (k, s1) => some (.d (.bool k), s1)
  | none => none
theorem ch_cases {f g : Int → Int → Bool} {e : Lo} {s s' : Sto} {k : Bool} (h : chK f g ma mb mc e s = some (k, s')) : ∃ i s1 j s2, ma e s = some (.d (.int i), s1) ∧ mb e s1 = some (.d (.int j), s2) ∧ ((f i j = true ∧ ∃ l, mc e s2 = some (.d (.int l), s') ∧ k = g j l) ∨ (f i j = false ∧ k = false ∧ s' = s2)) := by
  unfold chK at h
  split at h
  · rename_i i s1 e1
    split at h
    · rename_i j s2 e2
      refine ⟨i, s1, j, s2, e1, e2, ?_⟩
      split at h
      · rename_i hf
        split at h
        · rename_i l s3 e3
          cases h
          exact .inl ⟨hf, l, e3, rfl⟩
        · cases h
      · rename_i hf
        cases h
        exact .inr ⟨by simpa using hf, rfl, rfl⟩
    · cases h
  · cases h
theorem nt_ch {op op' : CmpOp} {f g : Int → Int → Bool} (h1 : OpR X (compareOp op) (rI0 fun i j => .bl (f i j))) (h2 : OpR X (compareOp op') (rI0 fun i j => .bl (g i j))) (ha : NE X a ma) (hb : NE X b mb) (hc : NE X c mc) (hm : lastMarks [op, op'] [b, c] = false := by with_unfolding_all rfl) :
    NT X (.Compare a [op, op'] [b, c] pos) (chK f g ma mb mc) := fun e s d s' e0 => by
  obtain ⟨i, s1, j, s2, e1, e2, h3⟩ := ch_cases e0
  rcases h3 with ⟨hf, l, e3, rfl⟩ | ⟨hf, rfl, rfl⟩
  · refine PT.imp (pt_chain h1 h2 (ha _ _ _ _ e1) (hb _ _ _ _ e2) (hc _ _ _ _ e3) hm) fun σ H Q ⟨w, G, L, q⟩ => ?_
    refine ⟨w, G, L, fun v w1 H1 l1 g1 v1 => ⟨w1, g1, L.up l1, fun u w2 H2 l2 g2 v2 => ?_⟩⟩
    cases vr_int v1
    cases vr_int v2
    refine ⟨i, j, rfl, rfl, _, rfl, ?_⟩
    rw [hf, if_pos rfl]
    refine ⟨w2, g2, (L.up l1).up l2, fun z w3 H3 l3 g3 v3 => ?_⟩
    cases vr_int v3
    exact ⟨j, l, rfl, rfl, _, rfl, q w3 H3 ((l1.trans l2).trans l3) g3⟩
  · refine PT.imp (pt_chain h1 h2 (ha _ _ _ _ e1) (hb _ _ _ _ e2) hc.fam hm) fun σ H Q ⟨w, G, L, q⟩ => ?_
    refine ⟨w, G, L, fun v w1 H1 l1 g1 v1 => ⟨w1, g1, L.up l1, fun u w2 H2 l2 g2 v2 => ?_⟩⟩
    cases vr_int v1
    cases vr_int v2
    refine ⟨i, j, rfl, rfl, _, rfl, ?_⟩
    rw [hf, if_neg Bool.false_ne_true]
    exact ⟨_, rfl, q w2 H2 (l1.trans l2) g2⟩

def cInQ (neg : Bool) (x : PyData) (ds : List PyData) : Option Bool :=
  if PyData.plainAll ds = true ∧ x.plain = true ∧ min (PyData.depthAll ds) x.depth ≤ 60 then some (if neg then !(ds.any fun z => PyData.eqv z x) else ds.any fun z => PyData.eqv z x) else none
noncomputable def dHas (kvs : List (PyData × D)) (x : PyData) : Bool := kvs.any fun kv => decide (kv.1 = x)
def kHas (kvs : List (Key × D)) (k : Key) : Bool := kvs.any fun kv => decide (kv.1 = k)
def isKey (x : PyData) : Bool := Z.isTup x && Z.kOK x && decide (Z.dep x ≤ 8)
def keyOf : PyData → Option Key
  | .int i => some (.inl i)
  | .str x => some (.inr x)
  | _ => none
/-- x in: a tuple, a list, a dict of the store -/
noncomputable def cIn (neg : Bool) : FC := fun s a b => match b with
  | .d (.tuple ds) => match pd s a with
    | some x => cInQ neg x ds
    | none => none
  | .d (.list ds) => match pd s a with
    | some x => cInQ neg x ds
    | none => none
  | .r j => match s[j]? with
    | some (.lst ds) => match data ds with
      | some ds => match pd s a with
        | some x => cInQ neg x ds
        | none => none
      | none => none
    | some (.dic kvs) => match a with
      | .d x => if isKey x then some (if neg then !dHas kvs x else dHas kvs x) else none
      | _ => none
    | some (.dk kvs) => match a with
      | .d x => match keyOf x with
        | some k => some (if neg then !kHas kvs k else kHas kvs k)
        | none => none
      | _ => none
    | _ => none
  | _ => none
theorem DR.has {B : Ba} {w : W} {x : PyData} : ∀ {xs : List DEn} {kvs : List (PyData × D)}, DR B w xs kvs → (atKey xs x).isSome = dHas kvs x
  | [], [], _ => rfl
  | e :: xs, kv :: kvs, ⟨⟨h1, _⟩, h⟩ => by
    have ih := DR.has (x := x) h
    unfold atKey dHas at ih ⊢
    rw [Option.isSome_map] at ih ⊢
    rw [List.find?_cons, List.any_cons, ← ih, h1]
    by_cases hk : kv.1 = x
    · simp [hk]
    · simp [hk]
  | [], _ :: _, h => h.elim
  | _ :: _, [], h => h.elim
theorem DR.ky {B : Ba} {w : W} {H : Hp} (e : Ext w.F H) : ∀ {xs : List DEn} {kvs : List (PyData × D)}, DR B w xs kvs → ∀ x ∈ xs, KyD B.K H x.2.1 x.1
  | [], [], _, x, h => by cases h
  | y :: xs, kv :: kvs, ⟨⟨_, ⟨h2, h3⟩, _⟩, h⟩, x, hx => by
    rcases List.mem_cons.mp hx with rfl | hx
    · exact ⟨dpUp e _ _ h2, h3⟩
    · exact DR.ky e h x hx
  | [], _ :: _, h, _, _ => h.elim
  | _ :: _, [], h, _, _ => h.elim
theorem key_ok {B : Ba} {w : W} {v : V} {x : PyData} (hk : isKey x = true) (hv : VR B w v (.d x)) : ∃ b, v = .ref b ∧ KyD B.K w.F b x := by
  unfold isKey at hk
  simp only [Bool.and_eq_true, decide_eq_true_eq] at hk
  obtain ⟨⟨h1, h2⟩, h3⟩ := hk
  cases x with
  | tuple ds =>
    have hv' : Dp B.K w.F v (.tuple ds) := hv
    obtain ⟨b, vs, rfl, _, _⟩ := dp_tup hv'
    exact ⟨b, rfl, hv', h2, h3⟩
  | _ => simp [Z.isTup] at h1
theorem keyOf_ok {B : Ba} {w : W} {v : V} {x : PyData} {k : Key} (hk : keyOf x = some k) (hv : VR B w v (.d x)) : v = kV k := by
  cases x with
  | int i => cases hk; exact vr_int hv
  | str i => cases hk; exact vr_str hv
  | _ => cases hk
end
end N

namespace N
open PySem L2 PyProof.Rows
open Z (Ext dpUp dpsUp dpsLen dpsGet DxO KyD DEn Cl cut)
section
variable {X : Cx} {ex a b c : Expr} {es : List Expr} {m ma mb mc : ME} {ms : MA} {mt mu : MT} {pos p : Pos}

abbrev FA := Sto → List D → Option (D × Sto)
def CaN (B : Ba) (q : List V → Hp → VK → Prop) (s : Sto) (ds : List D) (z : D) (s' : Sto) : Prop := ∀ us w H Q, Ok B w s H → VRs B w us ds → (∀ v w' H', w.le w' → Ok B w' s' H' → VR B w' v z → Q v H') → q us H Q
def CalS (X : Cx) (u : Value) (f : FA) : Prop := ∀ s ds z s', f s ds = some (z, s') → ∃ q, CallR X u q ∧ CaN (ba X) q s ds z s'
def eCall (f : FA) (ms : MA) : ME := fun e s => match ms e s with
  | some (ds, s1) => f s1 ds
  | none => none
theorem call_cases {f : FA} {e : Lo} {s s' : Sto} {z : D} (h : eCall f ms e s = some (z, s')) : ∃ ds s1, ms e s = some (ds, s1) ∧ f s1 ds = some (z, s') := by
  unfold eCall at h
  split at h
  · rename_i ds s1 e1
    exact ⟨ds, s1, e1, h⟩
  · cases h
theorem n_callB {f : FA} {id : String} {x : Str} (hc : CalS X (.builtin id) f) (ha : NA X (ex :: es) ms) (hm : X.mg x = none) (hv : bootBuiltins x = some (.builtin id) := by decide +kernel) (cl : Cl X x ex es pos := by exact ⟨rfl, rfl, rfl⟩) (hn : x ≠ "__name__" := by decide)
    (hdb : (x == ("__debug__" : Str)) = false := by decide) : NE X (.Call (.Name x p) (ex :: es) [] pos) (eCall f ms) := fun e s z s' h => by
  obtain ⟨ds, s1, e1, e2⟩ := call_cases h
  obtain ⟨q, hq, hB⟩ := hc _ _ _ _ e2
  exact PE.imp (pe_callB hq cl.1 hm hv (ha _ _ _ _ e1) hn hdb cl.2.1 cl.2.2) fun σ H Q ⟨w, g, l, k⟩ => ⟨w, g, l, fun us w1 H1 l1 g1 v1 => hB us w1 H1 Q g1 v1 fun v w2 H2 l2 g2 v2 => k v w2 H2 (l1.trans l2) g2 v2⟩
theorem n_callT {f : FA} {id : String} {x : Str} (hc : CalS X (.type id) f) (ha : NA X (ex :: es) ms) (hm : X.mg x = none) (hv : bootBuiltins x = some (.type id) := by decide +kernel) (cl : Cl X x ex es pos := by exact ⟨rfl, rfl, rfl⟩) (hn : x ≠ "__name__" := by decide)
    (hdb : (x == ("__debug__" : Str)) = false := by decide) : NE X (.Call (.Name x p) (ex :: es) [] pos) (eCall f ms) := fun e s z s' h => by
  obtain ⟨ds, s1, e1, e2⟩ := call_cases h
  obtain ⟨q, hq, hB⟩ := hc _ _ _ _ e2
  exact PE.imp (pe_callTy hq cl.1 hm hv (ha _ _ _ _ e1) hn hdb cl.2.1 cl.2.2) fun σ H Q ⟨w, g, l, k⟩ => ⟨w, g, l, fun us w1 H1 l1 g1 v1 => hB us w1 H1 Q g1 v1 fun v w2 H2 l2 g2 v2 => k v w2 H2 (l1.trans l2) g2 v2⟩
theorem vrs1 {B : Ba} {w : W} {us : List V} {d : D} (h : VRs B w us [d]) : ∃ u, us = [u] ∧ VR B w u d := by
  match us, h with
  | [u], ⟨h1, _⟩ => exact ⟨u, rfl, h1⟩
theorem vrs2 {B : Ba} {w : W} {us : List V} {d d' : D} (h : VRs B w us [d, d']) : ∃ u v, us = [u, v] ∧ VR B w u d ∧ VR B w v d' := by
  match us, h with
  | [u, v], ⟨h1, h2, _⟩ => exact ⟨u, v, rfl, h1, h2⟩
/-- one argument, a datum out, the store as it was -/
def f1 (g : Sto → D → Option PyData) : FA := fun s ds => match ds with
  | [d] => match g s d with
    | some x => some (.d x, s)
    | none => none
  | _ => none
theorem f1_ok {u : Value} {g : Sto → D → Option PyData} (h : ∀ s d x, g s d = some x → ∃ q, CallR X u q ∧ ∀ v w H Q, Ok (ba X) w s H → VR (ba X) w v d → (∀ v' w' H', w.le w' → Ok (ba X) w' s H' → VR (ba X) w' v' (.d x) → Q v' H') → q [v] H Q) : CalS X u (f1 g) := fun s ds z s' e => by
  unfold f1 at e
  split at e
  · rename_i d
    split at e
    · rename_i x e1
      cases e
      obtain ⟨q, h1, h2⟩ := h s d x e1
      refine ⟨q, h1, fun us w H Q G hv k => ?_⟩
      obtain ⟨v, rfl, hv1⟩ := vrs1 hv
      exact h2 v w H Q G hv1 k
    · cases e
  · cases e
def lenG (s : Sto) : D → Option PyData
  | .d (.str x) => if x.length ≤ lim then some (.int (x.length : Nat)) else none
  | .d (.tuple xs) => some (.int (xs.length : Nat))
  | d => match asL s d with
    | some ds => some (.int (ds.length : Nat))
    | none => none
def bLen : FA := f1 lenG
theorem b_len : CalS X (.builtin "len") bLen := f1_ok fun s d x e => by
  unfold lenG at e
  split at e
  · rename_i y
    split at e
    · rename_i hl
      cases e
      refine ⟨_, call_len_str, fun v w H Q G hv k => ?_⟩
      cases vr_str hv
      exact ⟨y, rfl, Nat.le_trans hl (Nat.le_of_lt lim_lt), k _ w H (W.le.refl w) G vi⟩
    · cases e
  · rename_i xs
    cases e
    refine ⟨_, call_len_seq, fun v w H Q G hv k => ?_⟩
    obtain ⟨q, vs, rfl, h1, h2⟩ := dp_tup hv
    exact ⟨q, vs, rfl, .inr (G.ext.t h1), k _ w H (W.le.refl w) G (by rw [dpsLen h2]; exact vi)⟩
  · split at e
    · rename_i ds e1
      cases e
      refine ⟨_, call_len_seq, fun v w H Q G hv k => ?_⟩
      obtain ⟨q, vs, rfl, h1, h2⟩ := asL_ok e1 G hv
      exact ⟨q, vs, rfl, .inl h1, k _ w H (W.le.refl w) G (by rw [h2.len]; exact vi)⟩
    · cases e
def bInt : FA := f1 fun _ d => match d with
  | .d (.int i) => some (.int i)
  | .d (.bool b) => some (.int (if b then 1 else 0))
  | _ => none
theorem b_int : CalS X (.type "int") bInt := f1_ok fun s d x e => by
  split at e
  · rename_i i
    cases e
    refine ⟨_, call_int1, fun v w H Q G hv k => ?_⟩
    cases vr_int hv
    exact .inl ⟨i, rfl, k _ w H (W.le.refl w) G vi⟩
  · rename_i b
    cases e
    refine ⟨_, call_int1, fun v w H Q G hv k => ?_⟩
    cases vr_bl hv
    exact .inr ⟨b, rfl, k _ w H (W.le.refl w) G vi⟩
  · cases e
def bools : List D → Option (List Bool)
  | [] => some []
  | .d (.bool i) :: r => match bools r with
    | some xs => some (i :: xs)
    | none => none
  | _ => none
theorem bools_eq : ∀ {ds : List D} {xs : List Bool}, bools ds = some xs → ds = xs.map fun i => .d (.bool i)
  | [], xs, h => by cases h; rfl
  | .d (.bool x) :: r, xs, h => by
    unfold bools at h
    split at h
    · rename_i ys e
      cases h
      rw [bools_eq e]; rfl
    · cases h
  | .r _ :: _, _, h => by cases h
  | .d .none :: _, _, h => by cases h
  | .d (.int _) :: _, _, h => by cases h
  | .d (.str _) :: _, _, h => by cases h
  | .d (.list _) :: _, _, h => by cases h
  | .d (.tuple _) :: _, _, h => by cases h
  | .d (.dict _) :: _, _, h => by cases h
theorem vrs_bools {B : Ba} {w : W} : ∀ {xs : List Bool} {vs : List V}, VRs B w vs (xs.map fun i => .d (.bool i)) → vs = xs.map V.bl
  | [], [], _ => rfl
  | x :: xs, v :: vs, ⟨h1, h2⟩ => by rw [vr_bl h1, vrs_bools h2]; rfl
  | [], _ :: _, h => h.elim
  | _ :: _, [], h => h.elim
def qL (g : List D → Option PyData) : FA := f1 fun s d => match asL s d with
  | some ds => g ds
  | none => none
def bAll : FA := qL fun ds => match bools ds with
  | some bs => some (.bool (bs.all id))
  | none => none
theorem qL_ok {u : Value} {g : List D → Option PyData} {q : List V → Hp → VK → Prop} (hq : CallR X u q) (h : ∀ ds x, g ds = some x → ∀ p vs w s H (Q : VK), SqL X.K H p vs → VRs (ba X) w vs ds → Ok (ba X) w s H → (∀ v', VR (ba X) w v' (.d x) → Q v' H) → q [.ref p] H Q) : CalS X u (qL g) := f1_ok fun s d x e => by
  split at e
  · rename_i ds e1
    refine ⟨q, hq, fun v w H Q G hv k => ?_⟩
    obtain ⟨p, vs, rfl, h1, h2⟩ := asL_ok e1 G hv
    exact h ds x e p vs w s H Q h1 h2 G fun v' hv' => k v' w H (W.le.refl w) G hv'
  · cases e
theorem b_all (hk : X.calm = true) : CalS X (.builtin "all") bAll := qL_ok (cr_all hk) fun ds x e p vs w s H Q h1 h2 G k => by
  split at e
  · rename_i bs e1
    cases e
    rw [bools_eq e1] at h2
    cases vrs_bools h2
    exact ⟨p, bs, rfl, h1, k _ vb⟩
  · cases e
/-- greatest, least of two -/
def f2i (g : Int → Int → Int) : FA := fun s ds => match ds with
  | [.d (.int i), .d (.int j)] => some (.d (.int (g i j)), s)
  | _ => none
def mx2 (i j : Int) : Int := if j > i then j else i
theorem f2i_ok {u : Value} {g : Int → Int → Int} (hq : CallR X u (fun xs H Q => ∃ i j, xs = [.int i, .int j] ∧ Q (.int (g i j)) H)) : CalS X u (f2i g) := fun s ds z s' e => by
  unfold f2i at e
  split at e
  · rename_i i j
    cases e
    refine ⟨_, hq, fun us w H Q G hv k => ?_⟩
    obtain ⟨u, v, rfl, h1, h2⟩ := vrs2 hv
    cases vr_int h1
    cases vr_int h2
    exact ⟨i, j, rfl, k _ w H (W.le.refl w) G vi⟩
  · cases e
def bMax2 : FA := f2i mx2
theorem b_max2 (hk : X.calm = true) : CalS X (.builtin "max") bMax2 := f2i_ok (call_max2 hk)
/-- tuple(x), list(x) -/
def asSeq (s : Sto) (d : D) : Option (List D) := match d with
  | .d (.tuple xs) => some (xs.map .d)
  | d => asL s d
theorem asSeq_ok {B : Ba} {w : W} {s : Sto} {H : Hp} {v : V} {d : D} {ds : List D} (h : asSeq s d = some ds) (g : Ok B w s H) (hv : VR B w v d) : ∃ p vs, v = .ref p ∧ (SqL B.K H p vs ∨ SqT B.K H p vs) ∧ VRs B w vs ds := by
  unfold asSeq at h
  split at h
  · cases h
    obtain ⟨p, vs, rfl, h1, h2⟩ := dp_tup hv
    exact ⟨p, vs, rfl, .inr (g.ext.t h1), VRs.data.mpr h2⟩
  · obtain ⟨p, vs, e1, h1, h2⟩ := asL_ok h g hv
    exact ⟨p, vs, e1, .inl h1, h2⟩
def bTuple : FA := fun s ds => match ds with
  | [.d (.tuple xs)] => some (.d (.tuple xs), s)
  | [d] => match asL s d with
    | some ds => match data ds with
      | some xs => some (.d (.tuple xs), s)
      | none => none
    | none => none
  | _ => none
def bList (own : Bool) : FA := fun s ds => match ds with
  | [d] => match asSeq s d with
    | some ds => mkL own s ds
    | none => none
  | _ => none
theorem b_list {own : Bool} : CalS X (.type "list") (bList own) := fun s ds z s' e => by
  unfold bList at e
  split at e
  · rename_i d
    split at e
    · rename_i ds e1
      refine ⟨_, call_list_of, fun us w H Q G hv k => ?_⟩
      obtain ⟨v, rfl, hv1⟩ := vrs1 hv
      obtain ⟨p, vs, rfl, h1, h2⟩ := asSeq_ok e1 G hv1
      refine ⟨p, vs, rfl, h1, fun l hl => ?_⟩
      obtain ⟨w', l', g', v'⟩ := mkL_ok e G hl h2
      exact k _ w' _ l' g' v'
    · cases e
  · cases e
/-- sorted(xs), xs a list of data of one shape -/
structure SrtOk (xs : List PyData) : Prop where
  al : PySem.W.AllAlike xs
  so : Z.SrtK xs
  dp : ∀ d ∈ xs, d.depth ≤ 60
inductive TyT where | tup | lst | bl | int | str
def TyT.of : TyT → PyData → Bool
  | .tup => Z.isTup | .lst => Z.isLst | .bl => Z.isBl | .int => Z.isInt | .str => Z.isStr
def TyT.nm : TyT → String
  | .tup => "tuple" | .lst => "list" | .bl => "bool" | .int => "int" | .str => "str"
theorem TyT.kit (t : TyT) (x : PyData) : kitB (Z.tyN x) t.nm = some (t.of x) := by
  cases t
  · exact Z.kit_tup x
  · exact Z.kit_lst x
  · exact Z.kit_bl x
  · exact Z.kit_int x
  · exact Z.kit_str x
def eIsi (t : TyT) (m : ME) : ME := fun e s => match m e s with
  | some (d, s1) => match pd s1 d with
    | some x => some (.d (.bool (t.of x)), s1)
    | none => none
  | none => none
theorem n_isi {T : Str} {q : Pos} (t : TyT) (ha : NE X a m) (hm : X.mg "isinstance" = none) (hmT : X.mg T = none) (hv : bootBuiltins T = some (.type t.nm) := by decide +kernel) (hg : Gl X T := by rfl) (hc : Cl X "isinstance" a [.Name T q] pos := by exact ⟨rfl, rfl, rfl⟩)
    (hs : starEach [Expr.Name T q] X.env = [(false, eval (.Name T q) X.env)] := by rfl) (hn : T ≠ "__name__" := by decide) (hd : (T == ("__debug__" : Str)) = false := by decide) :
    NE X (.Call (.Name "isinstance" p) [a, .Name T q] [] pos) (eIsi t m) := fun e s d s' h => by
  unfold eIsi at h
  split at h
  · rename_i d1 s1 e1
    split at h
    · rename_i x e2
      cases h
      refine PE.imp (pe_callB call_isi hc.1 hm (by decide +kernel) (pa_cons (ha _ _ _ _ e1) (pa_cons (pe_bltn hg hmT hv (v := .ty t.nm) rfl hn hd) pa_nil hs) hc.2.1) (by decide) (by decide) hc.2.1 hc.2.2) fun σ H Q ⟨w, g, l, q⟩ => ⟨w, g, l, fun v w1 H1 l1 g1 v1 => ?_⟩
      have d := pd_ok e2 g1 v1
      exact ⟨_, _, _, _, t.of x, rfl, .ty t.nm, Z.dp_ty d, kit_ty (t.kit x), q _ w1 H1 l1 g1 vb⟩
    · cases h
  · cases h

def gIx (s : Sto) (a : D) (i : Int) : Option D := match asSeq s a with
  | some ds => atI ds i
  | none => none
theorem vrs_atI {B : Ba} {w : W} {vs : List V} {ds : List D} {i : Int} {x : D} (h : VRs B w vs ds) (e : atI ds i = some x) : ∃ v, atI vs i = some v ∧ VR B w v x := by
  unfold atI at e ⊢
  rw [h.len]
  cases q : ixN ds.length i with
  | none => rw [q] at e; cases e
  | some j =>
    rw [q] at e
    exact h.get e
def eIx (ma mb : ME) : ME := eBin (fun s a b => match b with
  | .d (.int i) => match gIx s a i with
    | some d => some (d, s)
    | none => none
  | _ => none) ma mb
theorem n_ix (ha : NE X a ma) (hb : NE X b mb) (hs : PlainIx b := by intro _ _; rfl) : NE X (.Subscript a b pos) (eIx ma mb) := fun e s z s' h => by
  obtain ⟨x, s1, y, s2, e1, e2, e3⟩ := bin_cases h
  split at e3
  · rename_i i
    split at e3
    · rename_i d e4
      cases e3
      unfold gIx at e4
      split at e4
      · rename_i ds e5
        have run : ∀ {q : R2}, IxR X q → (∀ p vs v H Q, (SqL X.K H p vs ∨ SqT X.K H p vs) → atI vs i = some v → Q v H → q (.ref p) (.int i) H Q) → PE X (.Subscript a b pos) (tE (ba X) e s z s') := fun hq hr =>
          PE.imp (pe_ix hq (ha _ _ _ _ e1) (hb _ _ _ _ e2) hs) (bi_run fun u v w H Q g h1 h2 k => by
            cases vr_int h2
            obtain ⟨p, vs, rfl, h3, h4⟩ := asSeq_ok e5 g h1
            obtain ⟨v, h5, h6⟩ := vrs_atI h4 e4
            exact hr p vs v H Q h3 h5 (k v w H (W.le.refl w) g h6))
        exact run ix_seq fun p vs v H Q h1 h2 q => h1.elim (fun h => .inl ⟨p, vs, i, v, rfl, rfl, h, h2, q⟩) fun h => .inr (.inl ⟨p, vs, i, v, rfl, rfl, h, h2, q⟩)
      · cases e4
    · cases e3
  · cases e3
def oNone : MO := fun _ s => some (none, s)
def oSome (m : ME) : MO := fun e s => match m e s with
  | some (.d (.int i), s1) => some (some i, s1)
  | _ => none
theorem no_none : NO X none oNone := fun e s i s' h => by
  cases h
  exact Z.PO.imp po_none fun σ H Q ⟨w, g, l, q⟩ => q w H (W.le.refl w) g
theorem no_some (h : NE X ex m) : NO X (some ex) (oSome m) := fun e s i s' hm => by
  unfold oSome at hm
  split at hm
  · rename_i j s1 e1
    cases hm
    exact Z.PO.imp (po_some (h _ _ _ _ e1)) fun σ H Q ⟨w, g, l, q⟩ => ⟨w, g, l, fun v w1 H1 l1 g1 v1 => by
      cases vr_int v1
      exact ⟨j, rfl, q w1 H1 l1 g1⟩⟩
  · cases hm
def cutD {α : Type} (xs : List α) (lo hi : Option Int) : List α := (xs.drop (HT.sIx xs.length 0 lo)).take (HT.sIx xs.length xs.length hi - HT.sIx xs.length 0 lo)
theorem vrs_cut {B : Ba} {w : W} {vs : List V} {ds : List D} {lo hi : Option Int} (h : VRs B w vs ds) : VRs B w (cutV vs lo hi) (cutD ds lo hi) := by
  unfold cutV cutD
  rw [h.len]
  exact VRs.take _ (VRs.drop _ h)
theorem dps_cut {K : PySem.W.Frag} {F : Hp} {vs : List V} {ds : List PyData} {lo hi : Option Int} (h : DpAll K F vs ds) : DpAll K F (cutV vs lo hi) (cutD ds lo hi) := by
  unfold cutV cutD
  rw [dpsLen h]
  exact Z.dpsTake _ (Z.dpsDrop _ h)
def eSl (own : Bool) (ma : ME) (ml mu : MO) : ME := fun e s => match ma e s with
  | some (a, s1) => match ml e s1 with
    | some (l, s2) => match mu e s2 with
      | some (u, s3) => match a with
        | .d (.tuple xs) => some (.d (.tuple (cutD xs l u)), s3)
        | a => match asL s3 a with
          | some ds => mkL own s3 (cutD ds l u)
          | none => none
      | none => none
    | none => none
  | none => none
theorem n_sl {own : Bool} {lo hi : Option Expr} {ml mu : MO} {p2 : Pos} (ha : NE X a ma) (hl : NO X lo ml) (hu : NO X hi mu) : NE X (.Subscript a (.Slice lo hi none p2) pos) (eSl own ma ml mu) := fun e s z s' h => by
  unfold eSl at h
  split at h
  · rename_i a1 s1 e1
    split at h
    · rename_i l s2 e2
      split at h
      · rename_i u s3 e3
        split at h
        · rename_i xs
          cases h
          refine PE.imp (pe_slice sl_tupA (ha _ _ _ _ e1) (hl _ _ _ _ e2) (hu _ _ _ _ e3)) fun σ H Q ⟨w, g, L, k⟩ => ⟨w, g, L, fun v w1 H1 l1 g1 v1 => ⟨w1, g1, L.up l1, fun w2 H2 l2 g2 => ⟨w2, g2, (L.up l1).up l2, fun w3 H3 l3 g3 => ?_⟩⟩⟩
          have v3 := (v1.up l2).up l3
          obtain ⟨p, vs, rfl, h1, h2⟩ := dp_tup v3
          refine ⟨p, vs, rfl, g3.ext.t h1, fun ⟨z1, z2⟩ => ?_, fun _ q hq => ?_⟩
          · have e : cutD xs l u = xs := by
              unfold cutD
              rw [dpsLen h2] at z1 z2
              rw [z1, z2]
              simp
            exact k _ w3 _ ((l1.trans l2).trans l3) g3 (by rw [e]; exact v3)
          · obtain ⟨w4, l4, g4, v4⟩ := tup_ok g3 hq (dps_cut h2)
            exact k _ w4 _ (((l1.trans l2).trans l3).trans l4) g4 v4
        · split at h
          · rename_i ds e4
            refine PE.imp (pe_slice sl_list (ha _ _ _ _ e1) (hl _ _ _ _ e2) (hu _ _ _ _ e3)) fun σ H Q ⟨w, g, L, k⟩ => ⟨w, g, L, fun v w1 H1 l1 g1 v1 => ⟨w1, g1, L.up l1, fun w2 H2 l2 g2 => ⟨w2, g2, (L.up l1).up l2, fun w3 H3 l3 g3 => ?_⟩⟩⟩
            obtain ⟨p, vs, rfl, h1, h2⟩ := asL_ok e4 g3 ((v1.up l2).up l3)
            refine ⟨p, vs, rfl, h1, fun q hq => ?_⟩
            obtain ⟨w4, l4, g4, v4⟩ := mkL_ok h g3 hq (vrs_cut h2)
            exact k _ w4 _ (((l1.trans l2).trans l3).trans l4) g4 v4
          · cases h
      · cases h
    · cases h
  · cases h
end
end N

namespace N
open PySem L2 PyProof.Rows
open Z (Ext dpUp dpsUp dpsLen dpsGet DxO KyD DEn Cl cut offv)

inductive Fl where | nx | rt (d : D) | bk | ct
abbrev MS := Lo → Sto → Option (Fl × Lo × Sto)
def tK (B : Ba) (b : Nat) (w : W) (fl : Fl) (e' : Lo) (s' : Sto) (Dn : Ends) : Prop := match fl with
  | .nx => ∀ w' σ' H', (w.take b).le w' → Ok B w' s' H' → Sl B w' e' σ' → Dn.nx σ' H'
  | .rt d => ∀ w' v H', (w.take b).le w' → Ok B w' s' H' → VR B w' v d → Dn.rt v H'
  | .bk => ∀ w' σ' H', (w.take b).le w' → Ok B w' s' H' → Sl B w' e' σ' → Dn.bk σ' H'
  | .ct => ∀ w' σ' H', (w.take b).le w' → Ok B w' s' H' → Sl B w' e' σ' → Dn.ct σ' H'
def tS (B : Ba) (b : Nat) (e : Lo) (s : Sto) (fl : Fl) (e' : Lo) (s' : Sto) : TS := fun Dn σ H => ∃ w, Ok B w s H ∧ Sl B w e σ ∧ tK B b w fl e' s' Dn
def NS (X : Cx) (st : Stmt) (m : MS) : Prop := ∀ e s fl e' s' b, m e s = some (fl, e', s') → b ≤ s.length → PS X st (tS (ba X) b e s fl e' s')
def NSs (X : Cx) (st : List Stmt) (m : MS) : Prop := ∀ e s fl e' s' b, m e s = some (fl, e', s') → b ≤ s.length → PSs X st (tS (ba X) b e s fl e' s')
section
variable {X : Cx} {ex a b c tg : Expr} {es : List Expr} {st : Stmt} {rest body orelse : List Stmt} {m ma mb mc : ME} {ms : MA} {mt mu : MT} {pos p : Pos} {M M1 M2 : MS}
theorem NSs.fam (h : NSs X rest M) : PSs X rest (fun Dn σ H => ∃ e s fl e' s' b, M e s = some (fl, e', s') ∧ b ≤ s.length ∧ tS (ba X) b e s fl e' s' Dn σ H) :=
  ⟨fun pins sh σ H Dn I ⟨e, s, fl, e', s', b, hm, hb, q⟩ => (h e s fl e' s' b hm hb).run pins sh σ H Dn I q⟩
theorem W.le.cut {w w' : W} (h : w.le w') (b : Nat) : (w.take b).le w' := (W.take_le w b).trans h
theorem W.cut_eq {w w' : W} {b : Nat} (h : (w.take b).le w') (hb : b ≤ w.ρ.length) : b ≤ w'.ρ.length ∧ w'.ρ.take b = w.ρ.take b := by
  obtain ⟨m, hm⟩ := h.ρ
  have hm : w.ρ.take b ++ m = w'.ρ := hm
  have l : (w.ρ.take b).length = b := by rw [List.length_take]; omega
  constructor
  · rw [← hm, List.length_append, l]; omega
  · rw [← hm, List.take_append_of_le_length (by omega), List.take_of_length_le (by omega)]
theorem W.cut_trans {w w1 w2 : W} {b : Nat} (h : (w.take b).le w1) (hb : b ≤ w.ρ.length) (h2 : (w1.take b).le w2) : (w.take b).le w2 := by
  obtain ⟨_, e⟩ := W.cut_eq h hb
  refine ⟨h.F.trans h2.F, ?_⟩
  have k := h2.ρ
  rw [show (w1.take b).ρ = w1.ρ.take b from rfl, e] at k
  exact k
theorem tK.mono {B : Ba} {b : Nat} {w w' : W} {fl : Fl} {e : Lo} {s : Sto} {Dn : Ends} (h : tK B b w fl e s Dn) (l : (w.take b).le w') (hb : b ≤ w.ρ.length) : tK B b w' fl e s Dn := by
  cases fl with
  | nx => exact fun w2 σ H l2 => h w2 σ H (W.cut_trans l hb l2)
  | rt d => exact fun w2 v H l2 => h w2 v H (W.cut_trans l hb l2)
  | bk => exact fun w2 σ H l2 => h w2 σ H (W.cut_trans l hb l2)
  | ct => exact fun w2 σ H l2 => h w2 σ H (W.cut_trans l hb l2)
theorem pss_no : PSs X rest (fun _ _ _ => False) := ⟨fun _ _ _ _ _ _ h => h.elim⟩
def sNil : MS := fun e s => some (.nx, e, s)
def sSeq (a b : MS) : MS := fun e s => match a e s with
  | some (.nx, e1, s1) => b e1 s1
  | r => r
theorem ns_nil : NSs X [] sNil := fun e s fl e' s' b h hb => by
  cases h
  exact Z.PSs.imp pss_nil fun Dn σ H ⟨w, g, l, k⟩ => k w σ H ((W.le.refl w).cut b) g l
theorem ns_seq (h1 : NS X st M1) (h2 : NSs X rest M2) : NSs X (st :: rest) (sSeq M1 M2) := fun e s fl e' s' b h hb => by
  unfold sSeq at h
  split at h
  · rename_i e1 s1 e0
    refine Z.PSs.imp (pss_cons (h1 _ _ _ _ _ b e0 hb) h2.fam) fun Dn σ H ⟨w, g, l, k⟩ => ?_
    have hw : b ≤ w.ρ.length := by rw [g.lr]; exact hb
    refine ⟨w, g, l, fun w1 σ1 H1 l1 g1 sl1 => ?_⟩
    exact ⟨e1, s1, fl, e', s', b, h, by rw [← g1.lr]; exact (W.cut_eq l1 hw).1, w1, g1, sl1, k.mono l1 hw⟩
  · rename_i r hr
    refine Z.PSs.imp (pss_cons (h1 _ _ _ _ _ b h hb) pss_no) fun Dn σ H ⟨w, g, l, k⟩ => ⟨w, g, l, ?_⟩
    cases fl with
    | nx => exact absurd h (hr _ _)
    | rt d => exact k
    | bk => exact k
    | ct => exact k
def sSet (i : Nat) (m : ME) : MS := fun e s => match m e s with
  | some (d, s1) => some (.nx, e.set i (some d), s1)
  | none => none
theorem ns_set {x : Str} {p' : Pos} (i : Nat) (h : NE X ex m) (hN : X.N.Nodup) (hx : X.N[i]? = some x := by rfl) (hl : Loc X.env.scope x := by first | exact .inl rfl | exact .inr rfl) (hs : swapsWith ex (some (.Name x p')) pos.line X.env = pure false := by rfl)
    (hf : X.fn x = true ∨ X.env.scope.names.lookup x = some .local := by first | exact .inl rfl | exact .inr rfl) : NS X (.Assign [.Name x p'] ex pos) (sSet i m) := fun e s fl e' s' b hm hb => by
  unfold sSet at hm
  split at hm
  · rename_i d s1 e1
    cases hm
    exact Z.PS.imp (ps_set hN hx hl (h _ _ _ _ e1) hs hf) fun Dn σ H ⟨w, g, l, k⟩ => ⟨w, g, l, fun v w1 H1 l1 g1 v1 => k w1 _ H1 (l1.cut b) g1 ((l.up l1).put i v1)⟩
  · cases hm
def sRet (m : ME) : MS := fun e s => match m e s with
  | some (d, s1) => some (.rt d, e, s1)
  | none => none
theorem ns_ret (h : NE X ex m) : NS X (.Return (some ex) pos) (sRet m) := fun e s fl e' s' b hm hb => by
  unfold sRet at hm
  split at hm
  · rename_i d s1 e1
    cases hm
    exact Z.PS.imp (ps_ret (h _ _ _ _ e1)) fun Dn σ H ⟨w, g, l, k⟩ => ⟨w, g, l, fun v w1 H1 l1 g1 v1 => k w1 v H1 (l1.cut b) g1 v1⟩
  · cases hm
def sExpr (m : ME) : MS := fun e s => match m e s with
  | some (_, s1) => some (.nx, e, s1)
  | none => none
def sPass : MS := fun e s => some (.nx, e, s)
def sCt : MS := fun e s => some (.ct, e, s)
def sBk : MS := fun e s => some (.bk, e, s)
def sIf (mt : MT) (M1 M2 : MS) : MS := fun e s => match mt e s with
  | some (true, s1) => M1 e s1
  | some (false, s1) => M2 e s1
  | none => none
theorem le_len {B : Ba} {w w' : W} {s s' : Sto} {H H' : Hp} (l : w.le w') (g : Ok B w s H) (g' : Ok B w' s' H') : s.length ≤ s'.length := by
  rw [← g.lr, ← g'.lr]
  exact l.ρ.length_le
theorem ns_if (hc : NT X c mt) (h1 : NSs X body M1) (h2 : NSs X orelse M2) : NS X (.If c body orelse pos) (sIf mt M1 M2) := fun e s fl e' s' b hm hb => by
  have go : ∀ k s1, mt e s = some (k, s1) → (if k then M1 else M2) e s1 = some (fl, e', s') → PS X (.If c body orelse pos) (tS (ba X) b e s fl e' s') := fun k s1 e1 e2 => by
    refine Z.PS.imp (ps_if (hc _ _ _ _ e1) h1.fam h2.fam) fun Dn σ H ⟨w, g, l, q⟩ => ⟨w, g, l, fun w1 H1 l1 g1 => ?_⟩
    have hb1 : b ≤ s1.length := Nat.le_trans hb (le_len l1 g g1)
    have q1 := q.mono (l1.cut b) (by rw [g.lr]; exact hb)
    cases k with
    | true => exact ⟨e, s1, fl, e', s', b, e2, hb1, w1, g1, l.up l1, q1⟩
    | false => exact ⟨e, s1, fl, e', s', b, e2, hb1, w1, g1, l.up l1, q1⟩
  unfold sIf at hm
  split at hm
  · rename_i s1 e1
    exact go true s1 e1 hm
  · rename_i s1 e1
    exact go false s1 e1 hm
  · cases hm

abbrev MG := D → Lo → Option Lo
abbrev MGs := List PyData → Lo → Option Lo
def tG (B : Ba) (vs : List Nat) (s : Sto) (d : D) (e e' : Lo) : TG := fun v σ H Q => ∃ w, Ok B w s H ∧ Sl B w e σ ∧ VR B w v d ∧ ∀ σ', offv vs σ σ' → Sl B w e' σ' → Q σ' H
def NG (X : Cx) (tg : Expr) (vs : List Nat) (g : MG) : Prop := ∀ s d e e', g d e = some e' → PG X tg (tG (ba X) vs s d e e')
theorem NG.fam {vs : List Nat} {g : MG} (h : NG X tg vs g) : PG X tg (fun v σ H Q => ∃ s d e e', g d e = some e' ∧ tG (ba X) vs s d e e' v σ H Q) :=
  ⟨fun pins sh σ H v u Q I r ⟨s, d, e, e', m, q⟩ => (h s d e e' m).run pins sh σ H v u Q I r q⟩
def gName (k : Nat) : MG := fun d e => some (e.set k (some d))
def gTup (gs : MGs) : MG := fun d e => match d with
  | .d (.tuple xs) => gs xs e
  | _ => none
def gsNil : MGs := fun xs e => match xs with
  | [] => some e
  | _ => none
def gsCons (g : MG) (gs : MGs) : MGs := fun xs e => match xs with
  | x :: xs => match g (.d x) e with
    | some e1 => gs xs e1
    | none => none
  | [] => none
theorem ng_name {y : Str} {vs : List Nat} (k : Nat) (hN : X.N.Nodup) (hv : k ∈ vs := by simp) (hi : X.N[k]? = some y := by rfl) (hx : Loc X.env.scope y := by first | exact .inl rfl | exact .inr rfl)
    (hf : X.fn y = true ∨ X.env.scope.names.lookup y = some .local := by first | exact .inl rfl | exact .inr rfl) : NG X (.Name y pos) vs (gName k) := fun s d e e' h => by
  cases h
  exact Z.PG.imp (pg_name hN hi hx hf) fun v σ H Q ⟨w, g, l, hv1, q⟩ => q _ (Z.offv_set hv) (l.put k hv1)
/-- as many parts as names -/
def gsLenOk (n : Nat) (gs : MGs) : MGs := fun xs e => if xs.length = n then gs xs e else none
def sAsg (g : MG) (m : ME) : MS := fun e s => match m e s with
  | some (d, s1) => match g d e with
    | some e1 => some (.nx, e1, s1)
    | none => none
  | none => none
/-- x, y = a, b -/
def sPar (is : List Nat) (ms : MA) : MS := fun e s => match ms e s with
  | some (ds, s1) => if ds.length = is.length then some (.nx, (is.zip ds).foldl (fun e z => e.set z.1 (some z.2)) e, s1) else none
  | none => none
theorem ns_par2 {x y : Str} {px py pt pt2 : Pos} {kt k2 : Nat} (i j : Nat) (ha : NA X [a, b] ms) (hN : X.N.Nodup) (hij : i ≠ j := by decide) (hc : X.calm = true := by rfl) (hx : X.N[i]? = some x := by rfl) (hy : X.N[j]? = some y := by rfl)
    (hlx : X.env.scope.names.lookup x = some .local := by rfl) (hly : X.env.scope.names.lookup y = some .local := by rfl)
    (hw : swappedStores [.Tuple [.Name x px, .Name y py] kt pt] (.Tuple [a, b] k2 pt2) X.env = pure (some [x, y]) := by rfl) (hs : swapsWithSole [.Tuple [.Name x px, .Name y py] kt pt] (.Tuple [a, b] k2 pt2) pos.line X.env = pure false := by rfl) :
    NS X (.Assign [.Tuple [.Name x px, .Name y py] kt pt] (.Tuple [a, b] k2 pt2) pos) (sPar [i, j] ms) := fun e s fl e' s' bb hm hb => by
  unfold sPar at hm
  split at hm
  · rename_i ds s1 e1
    split at hm
    · rename_i hl
      cases hm
      match ds, hl with
      | [d1, d2], _ =>
        refine Z.PS.imp (ps_par hc hN hx hy hij hlx hly (ha _ _ _ _ e1) hw hs) fun Dn σ H ⟨w, g, l, k⟩ => ⟨w, g, l, fun us w1 H1 l1 g1 v1 => ?_⟩
        obtain ⟨u, v, rfl, h1, h2⟩ := vrs2 v1
        exact ⟨u, v, rfl, k w1 _ H1 (l1.cut bb) g1 (((l.up l1).put i h1).put j h2)⟩
    · cases hm
  · cases hm
theorem vrs3 {B : Ba} {w : W} {us : List V} {d d' d2 : D} (h : VRs B w us [d, d', d2]) : ∃ u v z, us = [u, v, z] ∧ VR B w u d ∧ VR B w v d' ∧ VR B w z d2 := by
  match us, h with
  | [u, v, z], ⟨h1, h2, h3, _⟩ => exact ⟨u, v, z, rfl, h1, h2, h3⟩
theorem ns_par3 {x y z : Str} {px py pz pt pt2 : Pos} {kt k2 : Nat} (i j k : Nat) (ha : NA X [a, b, c] ms) (hN : X.N.Nodup) (hij : i ≠ j := by decide) (hik : i ≠ k := by decide) (hjk : j ≠ k := by decide) (hc : X.calm = true := by rfl) (hx : X.N[i]? = some x := by rfl) (hy : X.N[j]? = some y := by rfl) (hz : X.N[k]? = some z := by rfl)
    (hlx : X.env.scope.names.lookup x = some .local := by rfl) (hly : X.env.scope.names.lookup y = some .local := by rfl) (hlz : X.env.scope.names.lookup z = some .local := by rfl)
    (hw : swappedStores [.Tuple [.Name x px, .Name y py, .Name z pz] kt pt] (.Tuple [a, b, c] k2 pt2) X.env = pure (some [x, y, z]) := by rfl) (hs : swapsWithSole [.Tuple [.Name x px, .Name y py, .Name z pz] kt pt] (.Tuple [a, b, c] k2 pt2) pos.line X.env = pure false := by rfl) :
    NS X (.Assign [.Tuple [.Name x px, .Name y py, .Name z pz] kt pt] (.Tuple [a, b, c] k2 pt2) pos) (sPar [i, j, k] ms) := fun e s fl e' s' bb hm hb => by
  unfold sPar at hm
  split at hm
  · rename_i ds s1 e1
    split at hm
    · rename_i hl
      cases hm
      match ds, hl with
      | [d1, d2, d3], _ =>
        refine Z.PS.imp (ps_par3 hc hN hx hy hz hij hik hjk hlx hly hlz (ha _ _ _ _ e1) hw hs) fun Dn σ H ⟨w, g, l, q⟩ => ⟨w, g, l, fun us w1 H1 l1 g1 v1 => ?_⟩
        obtain ⟨u, v, z, rfl, h1, h2, h3⟩ := vrs3 v1
        exact ⟨u, v, z, rfl, q w1 _ H1 (l1.cut bb) g1 ((((l.up l1).put i h1).put j h2).put k h3)⟩
    · cases hm
  · cases hm

/-- an object of the store changes: what PSet, methods do -/
def putL (s : Sto) (o : D) (i : Int) (d : D) : Option Sto := match o with
  | .r j => match s[j]? with
    | some (.lst ds) => match ixN ds.length i with
      | some k => some (s.set j (.lst (ds.set k d)))
      | none => none
    | _ => none
  | _ => none
theorem chg_lst {B : Ba} {w : W} {s : Sto} {H : Hp} {v : V} {j : Nat} {ds : List D} (g : Ok B w s H) (hv : VR B w v (.r j)) (hs : s[j]? = some (.lst ds)) :
    ∃ a vs, v = .ref a ∧ H a = some (.lst vs) ∧ VRs B w vs ds ∧ ∀ ds' vs', VRs B w vs' ds' → Ok B w (s.set j (.lst ds')) (upd H a (.lst vs')) := by
  obtain ⟨a, h1, rfl⟩ := hv
  obtain ⟨hF, vs, h2, h3⟩ := g.ce _ _ a hs h1
  exact ⟨a, vs, rfl, h2, h3, fun ds' vs' h => g.chg h1 hF ⟨hF, vs', upd_same, h⟩⟩
def sPut (ma mi mv : ME) : MS := fun e s => match mv e s with
  | some (d, s1) => match ma e s1 with
    | some (o, s2) => match mi e s2 with
      | some (.d (.int i), s3) => match putL s3 o i d with
        | some s4 => some (.nx, e, s4)
        | none => none
      | _ => none
    | none => none
  | none => none
theorem ns_put {tpos : Pos} {mi mv : ME} (hv : NE X ex mv) (ha : NE X a ma) (hi : NE X b mi)
    (hsub : ∀ v, assign (.Subscript a b tpos) X.env v = (do
      let ov ← holding [v] (eval a X.env)
      let iv ← holding [v, ov] (eval b X.env)
      standAt tpos
      holding [v, ov, iv] (setItem ov iv v)
      release [v, ov, iv] []) := by intro _; rfl)
    (hs : swapsWithSole [.Subscript a b tpos] ex pos.line X.env = pure false := by rfl) (hw : swappedStores [.Subscript a b tpos] ex X.env = pure none := by rfl) (h1 : (assignEach [.Subscript a b tpos] X.env).map (·.2) = [assign (.Subscript a b tpos) X.env] := by rfl) :
    NS X (.Assign [.Subscript a b tpos] ex pos) (sPut ma mi mv) := fun e s fl e' s' bb hm hb => by
  unfold sPut at hm
  split at hm
  · rename_i d s1 e1
    split at hm
    · rename_i o s2 e2
      split at hm
      · rename_i i s3 e3
        split at hm
        · rename_i s4 e4
          cases hm
          refine Z.PS.imp (ps_asg (hv _ _ _ _ e1) (pg_sub (ha _ _ _ _ e2) (hi _ _ _ _ e3) set_list hsub) hs hw h1) fun Dn σ H ⟨w, g, l, k⟩ => ⟨w, g, l, fun v w1 H1 l1 g1 v1 => ⟨w1, g1, l.up l1, fun u w2 H2 l2 g2 v2 => ⟨w2, g2, (l.up l1).up l2, fun z w3 H3 l3 g3 v3 => ?_⟩⟩⟩
          cases vr_int v3
          unfold putL at e4
          split at e4
          · rename_i j
            split at e4
            · rename_i ds e5
              split at e4
              · rename_i kk e6
                cases e4
                obtain ⟨a, vs, rfl, h4, h5, h6⟩ := chg_lst g3 (v2.up l3) e5
                refine ⟨a, vs, i, kk, rfl, rfl, h4, by rw [h5.len]; exact e6, ?_⟩
                exact k w3 σ _ (((l1.trans l2).trans l3).cut bb) (h6 _ _ (h5.set ((v1.up l2).up l3) kk)) (((l.up l1).up l2).up l3)
              · cases e4
            · cases e4
          · cases e4
        · cases hm
      · cases hm
    · cases hm
  · cases hm
/-- x op= e, for a name -/
def IOpS (X : Cx) (op : Operator) (f : FB) : Prop := ∀ s a b z s', f s a b = some (z, s') → ∃ q, OpR X (inplaceOp op) q ∧ BiN (ba X) q s a b z s'
def sAug (i : Nat) (f : FB) (m : ME) : MS := fun e s => match e[i]? with
  | some (some u) => match m e s with
    | some (d, s1) => match f s1 u d with
      | some (z, s2) => some (.nx, e.set i (some z), s2)
      | none => none
    | none => none
  | _ => none
theorem ns_aug {op : Operator} {f : FB} {x : Str} {p' : Pos} (ho : IOpS X op f) (i : Nat) (h : NE X ex m) (hN : X.N.Nodup) (hx : X.N[i]? = some x := by rfl) (hl : Loc X.env.scope x := by first | exact .inl rfl | exact .inr rfl)
    (hf : X.fn x = true ∨ X.env.scope.names.lookup x = some .local := by first | exact .inl rfl | exact .inr rfl) : NS X (.AugAssign (.Name x p') op ex pos) (sAug i f m) := fun e s fl e' s' b hm hb => by
  unfold sAug at hm
  split at hm
  · rename_i u e0
    split at hm
    · rename_i d s1 e1
      split at hm
      · rename_i z s2 e2
        cases hm
        obtain ⟨q, hq, hB⟩ := ho _ _ _ _ _ e2
        refine Z.PS.imp (ps_aug hN hx hl (h _ _ _ _ e1) hq hf) fun Dn σ H ⟨w, g, l, k⟩ => ?_
        obtain ⟨v0, h0, hv0⟩ := l.sl i u e0
        refine ⟨v0, h0, w, g, l, fun v w1 H1 l1 g1 v1 => ?_⟩
        exact hB v0 v w1 H1 _ g1 (hv0.up l1) v1 fun x w2 H2 l2 g2 v2 => k w2 _ H2 ((l1.trans l2).cut b) g2 (((l.up l1).up l2).put i v2)
      · cases hm
    · cases hm
  · cases hm
theorem iopC {op : Operator} {f : Int → Int → Int} {C : Int → Int → Prop} {c : Int → Int → Prop} [∀ i j, Decidable (c i j)] (h : OpR X (inplaceOp op) (rI C fun i j => .int (f i j))) (hc : ∀ i j, c i j → C i j) : IOpS X op (i2 fun i j => if c i j then some (f i j) else none) := fun s a b z s' e => by
  obtain ⟨i, j, k, rfl, rfl, e1, rfl, rfl⟩ := i2_cases e
  split at e1
  · cases e1
    exact ⟨_, h, BiN.intC (hc i j ‹_›) (show Z.flat (.int _) (.int _) from rfl)⟩
  · cases e1
def oDivS : FB := i2 fun i j => if 0 < j ∧ j < 1073741824 then some (i / j) else none
def oMulS : FB := i2 fun i j => if (-(2 ^ 64) < i ∧ i < 2 ^ 64) ∨ (-(2 ^ 64) < j ∧ j < 2 ^ 64) then some (i * j) else none
theorem io_div : IOpS X .FloorDiv oDivS := iopC iop_fdiv fun i j h => h
theorem io_mul : IOpS X .Mult oMulS := iopC iop_mul fun i j h => h
/-- += : a number, a text; a list grows -/
def oIadd : FB := fun s a b => match a, b with
  | .d (.int i), .d (.int j) => some (.d (.int (i + j)), s)
  | .d (.str x), .d (.str y) => if x.length + y.length ≤ lim then some (.d (.str (x ++ y)), s) else none
  | .r j, b => match s[j]? with
    | some (.lst ds) => match asL s b with
      | some es => if ds.length + es.length ≤ lim then some (.r j, s.set j (.lst (ds ++ es))) else none
      | none => none
    | _ => none
  | _, _ => none
end
end N

namespace N
open PySem L2 PyProof.Rows
open Z (Ext dpUp dpsUp dpsLen dpsGet DxO KyD DEn Cl cut offv wipeE)

structure Safe (s s' : Sto) : Prop where
  le : s.length ≤ s'.length
  ce : ∀ (j : Nat) (c : Cell), j < s.length → s'[j]? = some c → s[j]? = some c ∨ c.below s.length
open Classical in
noncomputable def trim (s s' : Sto) : Sto := if Safe s s' then s'.take s.length else s'
/-- .. where slots refer to what is below -/
def LoBelow (n : Nat) (e : Lo) : Prop := ∀ (i j : Nat), e[i]? = some (some (D.r j)) → j < n
open Classical in
noncomputable def trimE (s : Sto) (e : Lo) (s' : Sto) : Sto := if LoBelow s.length e then trim s s' else s'
def wipeN (e : Lo) : List Nat → Lo
  | [] => e
  | v :: vs => (wipeN e vs).set v none
theorem wipeN_len (e : Lo) : ∀ vs : List Nat, (wipeN e vs).length = e.length
  | [] => rfl
  | v :: vs => by unfold wipeN; rw [List.length_set, wipeN_len e vs]
theorem wipeN_get {e : Lo} {i : Nat} {d : D} : ∀ {vs : List Nat}, (wipeN e vs)[i]? = some (some d) → e[i]? = some (some d) ∧ i ∉ vs
  | [], h => ⟨h, by simp⟩
  | v :: vs, h => by
    unfold wipeN at h
    by_cases hi : i = v
    · subst hi
      by_cases hv : i < (wipeN e vs).length
      · rw [List.getElem?_set_self hv] at h
        cases h
      · rw [List.getElem?_eq_none (by simpa using hv)] at h
        cases h
    · rw [List.getElem?_set_ne (Ne.symm hi)] at h
      obtain ⟨z1, z2⟩ := wipeN_get h
      exact ⟨z1, by simp only [List.mem_cons, not_or]; exact ⟨hi, z2⟩⟩
section
variable {B : Ba} {w w' : W} {s s' : Sto} {H H' : Hp} {e : Lo} {σ : L2.St}
theorem Safe.ok (h : Safe s s') (g : Ok B w s H) (g' : Ok B w' s' H') : Ok B (w'.take s.length) (s'.take s.length) H' :=
  g'.cut fun j c hj hc => (h.ce j c hj hc).elim (fun h2 => by
    have hj2 : j < w.ρ.length := by rw [g.lr]; exact hj
    have := (g.ce j c _ h2 (List.getElem?_eq_getElem hj2)).isBelow
    rwa [g.lr] at this) id
theorem trim_cases (g : Ok B w s H) (g' : Ok B w' s' H') : (trim s s' = s' ∧ True) ∨ (trim s s' = s'.take s.length ∧ s.length ≤ s'.length ∧ Ok B (w'.take s.length) (s'.take s.length) H') := by
  unfold trim
  split
  · rename_i h
    exact .inr ⟨rfl, h.le, h.ok g g'⟩
  · exact .inl ⟨rfl, trivial⟩
/-- behind a turn -/
theorem trimE_ok (g : Ok B w s H) (g' : Ok B w' s' H') (l : Sl B w' e σ) : ∃ w2, w2.le w' ∧ (∀ b, b ≤ s.length → (w'.take b).le w2) ∧ Ok B w2 (trimE s e s') H' ∧ Sl B w2 e σ ∧ (s.length ≤ s'.length → s.length ≤ (trimE s e s').length) := by
  unfold trimE
  split
  · rename_i hl
    rcases trim_cases g g' with ⟨h, _⟩ | ⟨h, h1, h2⟩
    · rw [h]
      exact ⟨w', W.le.refl _, fun b hb => W.take_le _ _, g', l, id⟩
    · rw [h]
      refine ⟨w'.take s.length, W.take_le _ _, fun b hb => ⟨Ext.refl _, ?_⟩, h2, l.cut hl, fun _ => by rw [List.length_take]; omega⟩
      show w'.ρ.take b <+: w'.ρ.take s.length
      rw [show w'.ρ.take b = (w'.ρ.take s.length).take b by rw [List.take_take, Nat.min_eq_left hb]]
      exact List.take_prefix _ _
  · exact ⟨w', W.le.refl _, fun b hb => W.take_le _ _, g', l, id⟩
end

/-- the list that is walked stands as it was -/
def chkOk : Option (Nat × List D) → Sto → Prop
  | none, _ => True
  | some (j, ds), s => s[j]? = some (.lst ds)
abbrev MI := Lo → Sto → Option (List D × Option (Nat × List D) × Sto)
def WkN (B : Ba) (w0 : W) (J : It) (items : List D) (ck : Option (Nat × List D)) : Prop := ∀ w s H, w0.le w → Ok B w s H → chkOk ck s →
  (∀ i x, items[i]? = some x → J.go i H ∧ ∀ v H', J.yld i H v H' → ∃ w', w.le w' ∧ Ok B w' s H' ∧ VR B w' v x) ∧ J.stop items.length H
def tI (B : Ba) (e : Lo) (s : Sto) (items : List D) (ck : Option (Nat × List D)) (s1 : Sto) : TI := fun σ H R => ∃ w, Ok B w s H ∧ Sl B w e σ ∧ ∀ J w1 H1, w.le w1 → Ok B w1 s1 H1 → chkOk ck s1 → WkN B w1 J items ck → R J H1
def NI (X : Cx) (tg it : Expr) (m : MI) : Prop := ∀ e s items ck s1, m e s = some (items, ck, s1) → PI X tg it (tI (ba X) e s items ck s1)
section
variable {X : Cx} {ex a b c tg iter elt : Expr} {es ifs : List Expr} {st : Stmt} {rest body orelse : List Stmt} {m ma mb mc : ME} {ms : MA} {mt mu : MT} {pos p : Pos} {M M1 M2 : MS}
theorem PI.imp {t t' : TI} (h : PI X tg ex t) (k : ∀ σ H Q, t' σ H Q → t σ H Q) : PI X tg ex t' := Z.PI.imp h k
theorem NI.fam {mi : MI} (h : NI X tg iter mi) : PI X tg iter (fun σ H R => ∃ e s items ck s1, mi e s = some (items, ck, s1) ∧ tI (ba X) e s items ck s1 σ H R) :=
  ⟨fun pins sh σ H R I ⟨e, s, items, ck, s1, hm, q⟩ => (h e s items ck s1 hm).run pins sh σ H R I q⟩
/-- over a list -/
def iLst (m : ME) : MI := fun e s => match m e s with
  | some (.d (.list xs), s1) => some (xs.map .d, none, s1)
  | some (.r j, s1) => match s1[j]? with
    | some (.lst ds) => some (ds, some (j, ds), s1)
    | _ => none
  | _ => none
/-- over a tuple -/
def iTupl (m : ME) : MI := fun e s => match m e s with
  | some (.d (.tuple xs), s1) => some (xs.map .d, none, s1)
  | _ => none
theorem ni_tup (h : NE X ex m) : NI X tg ex (iTupl m) := fun e s items ck s1 hm => by
  unfold iTupl at hm
  split at hm
  · rename_i xs s2 e1
    cases hm
    refine PI.imp (pi_tup (h _ _ _ _ e1)) fun σ H R ⟨w, g, l, k⟩ => ⟨w, g, l, fun v w1 H1 l1 g1 v1 => ?_⟩
    obtain ⟨a, vs, rfl, hs, ha⟩ := dp_tup v1
    refine ⟨a, rfl, ⟨vs, g1.ext.t hs⟩, k _ w1 H1 l1 g1 trivial fun w2 s2 H2 l2 g2 _ => ?_⟩
    have hs2 : SqT X.K H2 a vs := g2.ext.t (l2.F.t hs)
    refine ⟨fun i x hx => ?_, _, hs2, by rw [List.length_map, dpsLen ha]; exact Nat.le_refl _⟩
    rw [List.getElem?_map] at hx
    obtain ⟨y, hy, rfl⟩ := Option.map_eq_some_iff.mp hx
    obtain ⟨v, h1, h2⟩ := dpsGet ha hy
    refine ⟨⟨_, v, hs2, h1⟩, fun v' H' ⟨e3, hv⟩ => ?_⟩
    subst e3
    have : v = v' := Option.some.inj (h1.symm.trans (hv _ hs2))
    subst this
    exact ⟨w2, W.le.refl _, g2, dpUp l2.F _ _ h2⟩
  · cases hm
/-- a tuple or a list, as it comes -/
def iSeq (m : ME) : MI := fun e s => match m e s with
  | some (.d (.tuple xs), s1) => some (xs.map .d, none, s1)
  | _ => iLst m e s
def rngD (lo : Int) (n : Nat) : List D := (List.range n).map fun k => .d (.int (lo + (k : Nat)))
theorem rngD_len {lo : Int} {n : Nat} : (rngD lo n).length = n := by unfold rngD; simp
theorem rngD_get {lo : Int} {n k : Nat} (h : k < n) : (rngD lo n)[k]? = some (.d (.int (lo + (k : Nat)))) := by
  unfold rngD
  rw [List.getElem?_map, List.getElem?_range h]
  rfl
theorem wk_rng {B : Ba} {w0 : W} {lo : Int} {n : Nat} : WkN B w0 (Itr lo n) (rngD lo n) none := fun w s H l g _ => by
  refine ⟨fun k x hx => ?_, Nat.le_of_eq rngD_len.symm⟩
  have hk : k < n := by
    have := (List.getElem?_eq_some_iff.mp hx).1
    rwa [rngD_len] at this
  rw [rngD_get hk] at hx
  cases hx
  refine ⟨hk, fun v H' ⟨e1, e2⟩ => ?_⟩
  subst e1 e2
  exact ⟨w, W.le.refl _, g, vi⟩
def iRng1 (ms : MA) : MI := fun e s => match ms e s with
  | some ([.d (.int j)], s1) => if -(2 ^ 62) ≤ j ∧ j < 2 ^ 62 then some (rngD 0 j.toNat, none, s1) else none
  | _ => none
def iRng2 (ms : MA) : MI := fun e s => match ms e s with
  | some ([.d (.int i), .d (.int j)], s1) => if -(2 ^ 62) ≤ i ∧ i < 2 ^ 62 ∧ -(2 ^ 62) ≤ j ∧ j < 2 ^ 62 then some (rngD i (j - i).toNat, none, s1) else none
  | _ => none
theorem ni_rng1 (h : NA X [a] ms) (hm : X.mg "range" = none) (hg : Gl X "range" := by rfl) (hs : starEach [a] X.env = [(false, eval a X.env)] := by rfl) : NI X tg (.Call (.Name "range" p) [a] [] pos) (iRng1 ms) := fun e s items ck s1 hmm => by
  unfold iRng1 at hmm
  split at hmm
  · rename_i j s2 e1
    split at hmm
    · rename_i hj
      cases hmm
      refine PI.imp (pi_range1 hg hm (h _ _ _ _ e1) hs) fun σ H R ⟨w, g, l, k⟩ => ⟨w, g, l, fun us w1 H1 l1 g1 v1 => ?_⟩
      obtain ⟨u, rfl, h1⟩ := vrs1 v1
      cases vr_int h1
      exact ⟨j, rfl, hj.1, hj.2, k _ w1 H1 l1 g1 trivial wk_rng⟩
    · cases hmm
  · cases hmm
/-- one turn: the target, the block, what is forgotten behind it -/
noncomputable def turnF (g : MG) (M : MS) (dead : List Nat) (x : D) : MS := fun e s => match g x e with
  | some e1 => match M e1 s with
    | some (.nx, e2, s2) => some (.nx, wipeN e2 dead, trimE s (wipeN e2 dead) s2)
    | some (.ct, e2, s2) => some (.nx, wipeN e2 dead, trimE s (wipeN e2 dead) s2)
    | r => r
  | none => none
open Classical in
noncomputable def forL (ck : Option (Nat × List D)) (T : D → MS) : List D → MS
  | [] => fun e s => if chkOk ck s then some (.nx, e, s) else none
  | x :: xs => fun e s => if chkOk ck s then match T x e s with
      | some (.nx, e1, s1) => forL ck T xs e1 s1
      | some (.bk, e1, s1) => some (.nx, e1, s1)
      | some (.rt d, e1, s1) => some (.rt d, e1, s1)
      | _ => none
    else none
noncomputable def sFor (mi : MI) (g : MG) (M : MS) (dead : List Nat) : MS := fun e s => match mi e s with
  | some (items, ck, s1) => forL ck (turnF g M dead) items e s1
  | none => none
theorem W.le.of_take {w w' : W} {n : Nat} (h : (w.take n).le w') (hn : w.ρ.length = n) : w.le w' := by
  refine ⟨h.F, ?_⟩
  have k := h.ρ
  rw [show (w.take n).ρ = w.ρ.take n from rfl, List.take_of_length_le (by omega)] at k
  exact k
theorem W.take_take {w w' : W} {b n : Nat} (h : (w.take n).le w') (hb : b ≤ n) : (w.take b).le w' := by
  refine ⟨h.F, List.IsPrefix.trans ?_ h.ρ⟩
  show w.ρ.take b <+: w.ρ.take n
  rw [show w.ρ.take b = (w.ρ.take n).take b by rw [List.take_take, Nat.min_eq_left hb]]
  exact List.take_prefix _ _
theorem ns_for {mi : MI} {vs : List Nat} {g : MG} {dead : List Nat} (hi : NI X tg iter mi) (hg : NG X tg vs g) (hb : NSs X body M) (hp : PassesOwn (model X.prog X.w) X.A X.env X.xe) (hc : X.calm = true := by rfl) (hs : ∀ x, foldedSetIterable iter X.env x = pure x := by intro _; rfl) :
    NS X (.For tg iter body [] pos) (sFor mi g M dead) := fun e s fl e' s' b hm hbs => by
  unfold sFor at hm
  split at hm
  · rename_i items ck s1 e1
    refine Z.PS.imp (ps_for hp hc (hi _ _ _ _ _ e1) hg.fam hb.fam hs) fun Dn σ H ⟨w, G, l, k⟩ => ⟨w, G, l, fun J w1 H1 l1 g1 ck1 wk => ?_⟩
    have hn : w1.ρ.length = s1.length := g1.lr
    have hbn : b ≤ s1.length := Nat.le_trans hbs (le_len l1 G g1)
    have k1 := k.mono (l1.cut b) (by rw [G.lr]; exact hbs)
    refine ⟨fun i m σ' H' => m = items.length - i ∧ i ≤ items.length ∧ ∃ e2 s2 w2, forL ck (turnF g M dead) (items.drop i) e2 s2 = some (fl, e', s') ∧ w1.le w2 ∧ s1.length ≤ s2.length ∧ Ok (ba X) w2 s2 H' ∧ Sl (ba X) w2 e2 σ',
      ⟨_, rfl, Nat.zero_le _, e, s1, w1, hm, W.le.refl _, Nat.le_refl _, g1, l.up l1⟩, ?_⟩
    rintro i m σ' H' ⟨rfl, hi', e2, s2, w2, hf, l2, n2, g2, sl2⟩
    by_cases hlt : i < items.length
    · rw [List.drop_eq_getElem_cons hlt] at hf
      unfold forL at hf
      split at hf
      · rename_i hck
        obtain ⟨wk1, _⟩ := wk w2 s2 H' l2 g2 hck
        obtain ⟨go, yl⟩ := wk1 i items[i] (List.getElem?_eq_getElem hlt)
        refine .inr ⟨go, fun σ3 H3 => ∃ e3 s3 w3, forL ck (turnF g M dead) (items.drop (i + 1)) e3 s3 = some (fl, e', s') ∧ w1.le w3 ∧ s1.length ≤ s3.length ∧ Ok (ba X) w3 s3 H3 ∧ Sl (ba X) w3 e3 σ3,
          fun σ3 H3 h3 => ⟨items.length - (i + 1), by omega, rfl, hlt, h3⟩, fun v H4 y => ?_⟩
        obtain ⟨w4, l4, g4, v4⟩ := yl v H4 y
        have sl4 := sl2.up l4
        have l14 := l2.trans l4
        have n4 : s1.length ≤ w4.ρ.length := by rw [g4.lr]; exact n2
        -- one turn
        unfold turnF at hf
        cases hgx : g items[i] e2 with
        | none => rw [hgx] at hf; cases hf
        | some e3 =>
          rw [hgx] at hf
          refine ⟨s2, _, _, _, hgx, w4, g4, sl4, v4, fun σ5 o l5 => ?_⟩
          cases hM : M e3 s2 with
          | none => simp only [hM] at hf; cases hf
          | some z =>
            obtain ⟨f2, e5, s5⟩ := z
            simp only [hM] at hf
            refine ⟨_, _, _, _, _, s1.length, hM, n2, w4, g4, l5, ?_⟩
            have back : ∀ {w' : W}, (w4.take s1.length).le w' → w1.le w' := fun h => by
              have h0 : (w1.take s1.length).le w4 := l14.cut _
              exact W.le.of_take (W.cut_trans h0 (by omega) h) hn
            have next : ∀ w' σ' H', (w4.take s1.length).le w' → Ok (ba X) w' s5 H' → Sl (ba X) w' e5 σ' → forL ck (turnF g M dead) (items.drop (i + 1)) (wipeN e5 dead) (trimE s2 (wipeN e5 dead) s5) = some (fl, e', s') →
                ∃ e3 s3 w3, forL ck (turnF g M dead) (items.drop (i + 1)) e3 s3 = some (fl, e', s') ∧ w1.le w3 ∧ s1.length ≤ s3.length ∧ Ok (ba X) w3 s3 H' ∧ Sl (ba X) w3 e3 σ' := fun w' σ' H' lw gw sw hf' => by
              have sw2 : Sl (ba X) w' (wipeN e5 dead) σ' := sw.wk (wipeN_len _ _) fun i d h => (wipeN_get h).1
              obtain ⟨w6, a1, a2, a3, a4, a5⟩ := trimE_ok (s := s2) g4 gw sw2
              refine ⟨_, _, w6, hf', ?_, ?_, a3, a4⟩
              · have h0 : (w1.take s1.length).le w' := (back lw).cut _
                exact W.le.of_take (W.cut_trans h0 (by omega) (a2 _ n2)) hn
              · have h1 := (W.cut_eq lw n4).1
                have h2 := (W.cut_eq (a2 _ n2) h1).1
                rw [a3.lr] at h2
                exact h2
            cases f2 with
            | nx => exact fun w' σ' H' lw gw sw => next w' σ' H' lw gw sw hf
            | ct => exact fun w' σ' H' lw gw sw => next w' σ' H' lw gw sw hf
            | rt d =>
              cases hf
              exact fun w' v H' lw gw vw => k1 w' v H' ((back lw).cut b) gw vw
            | bk =>
              cases hf
              exact fun w' σ' H' lw gw sw => k1 w' σ' H' ((back lw).cut b) gw sw
      · cases hf
    · have e : i = items.length := by omega
      subst e
      rw [List.drop_length] at hf
      unfold forL at hf
      split at hf
      · rename_i hck
        cases hf
        obtain ⟨_, w2'⟩ := wk w2 _ H' l2 g2 hck
        exact .inl ⟨w2', k1 w2 σ' H' (l2.cut b) g2 sl2⟩
      · cases hf
  · cases hm

noncomputable def whileL (mt : MT) (M : MS) (dead : List Nat) : Nat → MS
  | 0 => fun _ _ => none
  | n + 1 => fun e s => match mt e s with
    | some (true, s1) => match M e s1 with
      | some (.nx, e2, s2) => whileL mt M dead n (wipeN e2 dead) (trimE s (wipeN e2 dead) s2)
      | some (.ct, e2, s2) => whileL mt M dead n (wipeN e2 dead) (trimE s (wipeN e2 dead) s2)
      | some (.bk, e2, s2) => some (.nx, e2, s2)
      | some (.rt d, e2, s2) => some (.rt d, e2, s2)
      | none => none
    | some (false, s1) => some (.nx, e, s1)
    | none => none
noncomputable def sWhile (mt : MT) (M : MS) (dead : List Nat) : MS := fun e s => whileL mt M dead (2 ^ 64) e s
theorem ns_while {dead : List Nat} (hc : NT X c mt) (hb : NSs X body M) (hp : PassesOwn (model X.prog X.w) X.A X.env X.xe) : NS X (.While c body [] pos) (sWhile mt M dead) := fun e s fl e' s' b hm hbs => by
  refine Z.PS.imp (ps_while hp hc.fam hb.fam) fun Dn σ H ⟨w, G, l, k⟩ => ?_
  have hn : w.ρ.length = s.length := G.lr
  refine ⟨fun m σ' H' => ∃ e2 s2 w2, whileL mt M dead m e2 s2 = some (fl, e', s') ∧ w.le w2 ∧ s.length ≤ s2.length ∧ Ok (ba X) w2 s2 H' ∧ Sl (ba X) w2 e2 σ',
    ⟨_, e, s, w, hm, W.le.refl _, Nat.le_refl _, G, l⟩, ?_⟩
  rintro m σ' H' ⟨e2, s2, w2, hf, l2, n2, g2, sl2⟩
  cases m with
  | zero => cases hf
  | succ m =>
    unfold whileL at hf
    cases ht : mt e2 s2 with
    | none => rw [ht] at hf; cases hf
    | some z =>
      obtain ⟨kk, s3⟩ := z
      rw [ht] at hf
      refine ⟨e2, s2, kk, s3, ht, w2, g2, sl2, fun w3 H3 l3 g3 => ?_⟩
      have l13 := l2.trans l3
      have sl3 := sl2.up l3
      cases kk with
      | false =>
        dsimp only
        rw [if_neg Bool.false_ne_true]
        cases hf
        exact k w3 σ' H3 (l13.cut b) g3 sl3
      | true =>
        dsimp only
        rw [if_pos rfl]
        have n3 : s.length ≤ s3.length := Nat.le_trans n2 (le_len l3 g2 g3)
        refine ⟨fun σ5 H5 => ∃ e2 s2 w2, whileL mt M dead m e2 s2 = some (fl, e', s') ∧ w.le w2 ∧ s.length ≤ s2.length ∧ Ok (ba X) w2 s2 H5 ∧ Sl (ba X) w2 e2 σ5, fun σ5 H5 h5 => ⟨m, Nat.lt_succ_self m, h5⟩, ?_⟩
        cases hM : M e2 s3 with
        | none => simp only [hM] at hf; cases hf
        | some z =>
          obtain ⟨f2, e5, s5⟩ := z
          simp only [hM] at hf
          refine ⟨_, _, _, _, _, s.length, hM, n3, w3, g3, sl3, ?_⟩
          have n3' : s.length ≤ w3.ρ.length := by rw [g3.lr]; exact n3
          have back : ∀ {w' : W}, (w3.take s.length).le w' → w.le w' := fun h => by
            have h0 : (w.take s.length).le w3 := l13.cut _
            exact W.le.of_take (W.cut_trans h0 (by omega) h) hn
          have next : ∀ w' σ' H', (w3.take s.length).le w' → Ok (ba X) w' s5 H' → Sl (ba X) w' e5 σ' → whileL mt M dead m (wipeN e5 dead) (trimE s2 (wipeN e5 dead) s5) = some (fl, e', s') →
              ∃ e2 s2 w2, whileL mt M dead m e2 s2 = some (fl, e', s') ∧ w.le w2 ∧ s.length ≤ s2.length ∧ Ok (ba X) w2 s2 H' ∧ Sl (ba X) w2 e2 σ' := fun w' σ' H' lw gw sw hf' => by
            have sw2 : Sl (ba X) w' (wipeN e5 dead) σ' := sw.wk (wipeN_len _ _) fun i d h => (wipeN_get h).1
            obtain ⟨w6, a1, a2, a3, a4, a5⟩ := trimE_ok (s := s2) g2 gw sw2
            refine ⟨_, _, w6, hf', ?_, ?_, a3, a4⟩
            · have h0 : (w.take s.length).le w' := (back lw).cut _
              exact W.le.of_take (W.cut_trans h0 (by omega) (a2 _ n2)) hn
            · have h1 := (W.cut_eq lw n3').1
              have h2 := (W.cut_eq (a2 _ n2) h1).1
              rw [a3.lr] at h2
              exact h2
          cases f2 with
          | nx => exact fun w' σ' H' lw gw sw => next w' σ' H' lw gw sw hf
          | ct => exact fun w' σ' H' lw gw sw => next w' σ' H' lw gw sw hf
          | rt d =>
            cases hf
            exact fun w' v H' lw gw vw => k w' v H' ((back lw).cut b) gw vw
          | bk =>
            cases hf
            exact fun w' σ' H' lw gw sw => k w' σ' H' ((back lw).cut b) gw sw
end
end N

namespace N
open PySem L2 PyProof.Rows
open Z (Ext dpUp dpsUp dpsLen dpsGet DxO KyD DEn Cl cut offv bl Dfn)

open Classical in
noncomputable def lcL (k : Nat) (ck : Option (Nat × List D)) (g : MG) (mt : MT) (el : ME) (e0 : Lo) : List D → Sto → Option Sto
  | [], s => if chkOk ck s then some s else none
  | x :: xs, s => if chkOk ck s then match g x e0 with
      | some e1 => match mt e1 s with
        | some (true, s1) => match el e1 s1 with
          | some (y, s2) => match s2[k]? with
            | some (.lst acc) => if acc.length < lim then lcL k ck g mt el e0 xs (s2.set k (.lst (acc ++ [y]))) else none
            | _ => none
          | none => none
        | some (false, s1) => lcL k ck g mt el e0 xs s1
        | none => none
      | none => none
    else none
noncomputable def lcFin (own : Bool) (s1 s2 : Sto) : Option (D × Sto) := match s2[s1.length]? with
  | some (.lst ds) => if own then some (.r s1.length, s2) else match data ds with
    | some xs => some (.d (.list xs), trim s1 (s2.set s1.length .gone))
    | none => none
  | _ => none
noncomputable def eLc (own : Bool) (vs : List Nat) (mi : MI) (g : MG) (mt : MT) (el : ME) : ME := fun e s => match mi e s with
  | some (items, ck, s1) => match lcL s1.length ck g mt el (wipeN e vs) items (s1 ++ [.lst []]) with
    | some s2 => lcFin own s1 s2
    | none => none
  | none => none
def tTrue : MT := fun _ s => some (true, s)
def NTs (X : Cx) (ifs : List Expr) (m : MT) : Prop := ∀ e s b s', m e s = some (b, s') → PTs X ifs (tT (ba X) e s b s')
theorem nts_nil {X : Cx} : NTs X [] tTrue := fun e s b s' h => by
  cases h
  exact ⟨fun pins sh σ H Q I ⟨w, g, l, q⟩ => pts_nil.run pins sh σ H Q I (q w H (W.le.refl w) g)⟩
section
variable {B : Ba} {w w' : W} {s s' : Sto} {H H' : Hp} {e : Lo} {σ : L2.St}
theorem Sl.wipe (h : Sl B w e σ) (vs : List Nat) : Sl B w (wipeN e vs) (L2.wipe σ vs) := ⟨by rw [wipeN_len, wipe_length]; exact h.le, fun i d q => by
  obtain ⟨z1, z2⟩ := wipeN_get q
  obtain ⟨v, h1, h2⟩ := h.sl i d z1
  exact ⟨v, by rw [Z.wipe_keep z2]; exact h1, h2⟩⟩
theorem mkFin_ok {own : Bool} {s1 s2 : Sto} {w1 w2 : W} {H1 H2 : Hp} {d : D} {p : Addr} (h : lcFin own s1 s2 = some (d, s')) (g1 : Ok B w1 s1 H1) (l : w1.le w2) (hp : w2.ρ[s1.length]? = some p) (g2 : Ok B w2 s2 H2) : ∃ w3, w1.le w3 ∧ Ok B w3 s' H2 ∧ VR B w3 (.ref p) d := by
  unfold lcFin at h
  split at h
  · rename_i ds e1
    split at h
    · cases h
      exact ⟨w2, l, g2, p, hp, rfl⟩
    · split at h
      · rename_i xs e2
        cases h
        rw [data_eq e2] at e1
        obtain ⟨w3, l3, g3, d3⟩ := g2.freeze e1 hp
        rcases trim_cases g1 g3 with ⟨h, _⟩ | ⟨h, h1, h2⟩
        · rw [h]
          exact ⟨w3, l.trans l3, g3, d3⟩
        · rw [h]
          refine ⟨w3.take s1.length, ⟨(l.trans l3).F, ?_⟩, h2, d3⟩
          obtain ⟨m, hm⟩ := (l.trans l3).ρ
          show w1.ρ <+: w3.ρ.take s1.length
          rw [← hm, ← g1.lr, List.take_append_of_le_length (Nat.le_refl _), List.take_length]
          exact List.prefix_rfl
      · cases h
  · cases h
end
section
variable {X : Cx} {ex a b c tg iter elt : Expr} {es ifs : List Expr} {st : Stmt} {rest body orelse : List Stmt} {m ma mb mc : ME} {ms : MA} {mt mu : MT} {pos p : Pos} {M M1 M2 : MS}
theorem lc_run {mi : MI} {g : MG} {el : ME} {own : Bool} {vs : List Nat} {e : Lo} {s s' : Sto} {d : D} (h : eLc own vs mi g mt el e s = some (d, s')) {wi : TI} (hw : ∀ items ck s1 σ H R, mi e s = some (items, ck, s1) → tI (ba X) e s items ck s1 σ H R → wi σ H R)
    {G : TG} {TT' : TT} {EE : TE} (hG : ∀ s d e e' v σ H Q, g d e = some e' → tG (ba X) vs s d e e' v σ H Q → G v σ H Q) (hT : ∀ e s b s' σ H Q, mt e s = some (b, s') → tT (ba X) e s b s' σ H Q → TT' σ H Q) (hE : ∀ e s d s' σ H Q, el e s = some (d, s') → tE (ba X) e s d s' σ H Q → EE σ H Q) :
    ∀ σ H Q, tE (ba X) e s d s' σ H Q → tLc wi G TT' EE vs σ H Q := by
  intro σ H Q ⟨w, g0, l, k⟩
  unfold eLc at h
  split at h
  · rename_i items ck s1 e1
    split at h
    · rename_i sF eF
      refine hw _ _ _ _ _ _ e1 ⟨w, g0, l, fun J w1 H1 l1 g1 ck1 wk D hD => ?_⟩
      have gD : Ok (ba X) ⟨w1.F, w1.ρ ++ [D]⟩ (s1 ++ [.lst []]) (upd H1 D (.lst [])) := g1.new hD ⟨ext_none g1.ext hD, [], upd_same, trivial⟩
      have lD : w1.le ⟨w1.F, w1.ρ ++ [D]⟩ := Ok.new_le
      have atD : (w1.ρ ++ [D])[s1.length]? = some D := by rw [← g1.lr, List.getElem?_append_right (Nat.le_refl _), Nat.sub_self]; rfl
      refine ⟨fun i m H' => m = items.length - i ∧ i ≤ items.length ∧ ∃ s2 w2, lcL s1.length ck g mt el (wipeN e vs) (items.drop i) s2 = some sF ∧ W.le ⟨w1.F, w1.ρ ++ [D]⟩ w2 ∧ Ok (ba X) w2 s2 H', ⟨_, rfl, Nat.zero_le _, _, _, eF, W.le.refl _, gD⟩, ?_⟩
      rintro i m H' ⟨rfl, hi', s2, w2, hf, l2, g2⟩
      have slw : ∀ {w' : W}, W.le ⟨w1.F, w1.ρ ++ [D]⟩ w' → Sl (ba X) w' (wipeN e vs) (wipe σ vs) := fun h => (l.up ((l1.trans lD).trans h)).wipe vs
      by_cases hlt : i < items.length
      · rw [List.drop_eq_getElem_cons hlt] at hf
        unfold lcL at hf
        split at hf
        · rename_i hck
          obtain ⟨wk1, _⟩ := wk w2 s2 H' (lD.trans l2) g2 hck
          obtain ⟨go, yl⟩ := wk1 i items[i] (List.getElem?_eq_getElem hlt)
          refine .inr ⟨go, fun H3 => ∃ s3 w3, lcL s1.length ck g mt el (wipeN e vs) (items.drop (i + 1)) s3 = some sF ∧ W.le ⟨w1.F, w1.ρ ++ [D]⟩ w3 ∧ Ok (ba X) w3 s3 H3, fun H3 h3 => ⟨items.length - (i + 1), by omega, rfl, hlt, h3⟩, fun v H4 y => ?_⟩
          obtain ⟨w4, l4, g4, v4⟩ := yl v H4 y
          cases hgx : g items[i] (wipeN e vs) with
          | none => rw [hgx] at hf; cases hf
          | some e3 =>
            rw [hgx] at hf
            refine hG _ _ _ _ _ _ _ _ hgx ⟨w4, g4, slw (l2.trans l4), v4, fun σ5 o l5 => ⟨Z.wipe_off o, ?_⟩⟩
            cases hM : mt e3 s2 with
            | none => simp only [hM] at hf; cases hf
            | some z =>
              obtain ⟨bb, s5⟩ := z
              simp only [hM] at hf
              refine hT _ _ _ _ _ _ _ hM ⟨w4, g4, l5, fun w6 H6 l6 g6 => ?_⟩
              cases bb with
              | false =>
                dsimp only
                rw [if_neg Bool.false_ne_true]
                exact ⟨s5, w6, hf, (l2.trans l4).trans l6, g6⟩
              | true =>
                dsimp only
                rw [if_pos rfl]
                cases hE2 : el e3 s5 with
                | none => simp only [hE2] at hf; cases hf
                | some z =>
                  obtain ⟨yd, s7⟩ := z
                  simp only [hE2] at hf
                  refine hE _ _ _ _ _ _ _ hE2 ⟨w6, g6, l5.up l6, fun u w8 H8 l8 g8 v8 => ?_⟩
                  have l18 := ((l2.trans l4).trans l6).trans l8
                  have at8 : w8.ρ[s1.length]? = some D := pre_get l18.ρ atD
                  split at hf
                  · rename_i acc e8
                    split at hf
                    · rename_i hl
                      obtain ⟨a9, vs9, q1, q2, q3, q4⟩ := chg_lst (v := .ref D) g8 ⟨D, at8, rfl⟩ e8
                      cases q1
                      exact ⟨vs9, q2, by rw [q3.len]; exact Nat.lt_trans hl lim_lt, _, w8, hf, l18, q4 _ _ (q3.app ⟨v8, trivial⟩)⟩
                    · cases hf
                  · cases hf
        · cases hf
      · have e' : i = items.length := by omega
        subst e'
        rw [List.drop_length] at hf
        unfold lcL at hf
        split at hf
        · rename_i hck
          cases hf
          obtain ⟨_, st⟩ := wk w2 _ H' (lD.trans l2) g2 hck
          obtain ⟨w3, a1, a2, a3⟩ := mkFin_ok h g1 (lD.trans l2) (pre_get l2.ρ atD) g2
          exact .inl ⟨st, k _ w3 H' (l1.trans a1) a2 a3⟩
        · cases hf
    · cases h
  · cases h
section
variable {scope : Scope} {own : List (Str × Nat)} {ow : Bool} {vs : List Nat} {mi : MI} {g : MG} {el : ME}
theorem n_lc (hi : NI X tg iter mi) (hg : ∀ z, NG (bl X scope z) tg vs g) (ht : ∀ z, NTs (bl X scope z) ifs mt) (he : ∀ z, NE (bl X scope z) elt el) (hN : X.N.Nodup) (ok : BlkOk X.N X.env.scope scope own) (hvs : own.map (·.2) = vs := by rfl) (hc : X.calm = true := by rfl) (hs : ∀ x, foldedSetIterable iter X.env x = pure x := by intro _; rfl) :
    NE X (.ListComp elt [⟨tg, iter, ifs, 0⟩] scope pos) (eLc ow vs mi g mt el) := fun e s d s' h => by
  subst hvs
  refine PE.imp (pe_lc hc hN hi.fam ok (fun sh H C cl fp => (show PG (X.blk sh H scope (compEnvC scope cl C X.env) fp) tg (fun v σ H Q => ∃ s d e e', g d e = some e' ∧ tG (ba X) (own.map (·.2)) s d e e' v σ H Q) from (hg (sh, H, C, cl, fp)).fam)) (fun sh H C cl fp => (⟨fun pins sh' σ H' Q I ⟨e, s, b, s', hm, q⟩ => (ht (sh, H, C, cl, fp) e s b s' hm).run pins sh' σ H' Q I q⟩ : PTs _ ifs (fun σ H Q => ∃ e s b s', mt e s = some (b, s') ∧ tT (ba X) e s b s' σ H Q))) (fun sh H C cl fp => (show PE (X.blk sh H scope (compEnvC scope cl C X.env) fp) elt (fun σ H Q => ∃ e s d s', el e s = some (d, s') ∧ tE (ba X) e s d s' σ H Q) from (he (sh, H, C, cl, fp)).fam)) hs) ?_
  exact lc_run h (fun items ck s1 σ H R h1 h2 => ⟨e, s, items, ck, s1, h1, h2⟩) (fun s d e e' v σ H Q h1 h2 => ⟨s, d, e, e', h1, h2⟩) (fun e s b s' σ H Q h1 h2 => ⟨e, s, b, s', h1, h2⟩) (fun e s d s' σ H Q h1 h2 => ⟨e, s, d, s', h1, h2⟩)
/-- name = [..] -/
theorem ns_setLc {y : Str} {py spos : Pos} (i : Nat) (hi : NI X tg iter mi) (hg : ∀ z, NG (bl X scope z) tg vs g) (ht : ∀ z, NTs (bl X scope z) ifs mt) (he : ∀ z, NE (bl X scope z) elt el) (hN : X.N.Nodup) (ok : BlkOk X.N X.env.scope scope own) (hvs : own.map (·.2) = vs := by rfl) (hc : X.calm = true := by rfl) (hs : ∀ x, foldedSetIterable iter X.env x = pure x := by intro _; rfl)
    (hy : X.N[i]? = some y := by rfl) (hyl : X.env.scope.names.lookup y = some .local := by rfl) (hsw : swapsWith (.ListComp elt [⟨tg, iter, ifs, 0⟩] scope pos) (some (.Name y py)) spos.line X.env = pure true := by rfl) :
    NS X (.Assign [.Name y py] (.ListComp elt [⟨tg, iter, ifs, 0⟩] scope pos) spos) (sSet i (eLc ow vs mi g mt el)) := fun e s fl e' s' b hm hb => by
  subst hvs
  unfold sSet at hm
  split at hm
  · rename_i d s1 h
    cases hm
    refine Z.PS.imp (ps_setLc hc hN hy hyl hsw hi.fam ok (fun sh H C cl fp => (show PG (X.blk sh H scope (compEnvC scope cl C X.env) fp) tg (fun v σ H Q => ∃ s d e e', g d e = some e' ∧ tG (ba X) (own.map (·.2)) s d e e' v σ H Q) from (hg (sh, H, C, cl, fp)).fam)) (fun sh H C cl fp => (⟨fun pins sh' σ H' Q I ⟨e, s, b, s', hm, q⟩ => (ht (sh, H, C, cl, fp) e s b s' hm).run pins sh' σ H' Q I q⟩ : PTs _ ifs (fun σ H Q => ∃ e s b s', mt e s = some (b, s') ∧ tT (ba X) e s b s' σ H Q))) (fun sh H C cl fp => (show PE (X.blk sh H scope (compEnvC scope cl C X.env) fp) elt (fun σ H Q => ∃ e s d s', el e s = some (d, s') ∧ tE (ba X) e s d s' σ H Q) from (he (sh, H, C, cl, fp)).fam)) hs) fun Dn σ H ⟨w, G, l, k⟩ => ?_
    refine lc_run h (fun items ck s1 σ H R h1 h2 => ⟨e, s, items, ck, s1, h1, h2⟩) (fun s d e e' v σ H Q h1 h2 => ⟨s, d, e, e', h1, h2⟩) (fun e s b s' σ H Q h1 h2 => ⟨e, s, b, s', h1, h2⟩) (fun e s d s' σ H Q h1 h2 => ⟨e, s, d, s', h1, h2⟩) σ H _ ⟨w, G, l, fun v w1 H1 l1 g1 v1 => ?_⟩
    exact k w1 _ H1 (l1.cut b) g1 ((l.up l1).put i v1)
  · cases hm
end

/-- what a call leaves: the store cut back; a list of one's own becomes a datum -/
noncomputable def ret (own : Bool) (s : Sto) (d : D) (s' : Sto) : Option (D × Sto) := match d with
  | .d x => some (.d x, trim s s')
  | .r j => if j < s.length then some (.r j, trim s s') else if own then some (.r j, s') else match s'[j]? with
    | some (.lst ds) => match data ds with
      | some xs => some (.d (.list xs), trim s (s'.set j .gone))
      | none => some (.r j, s')
    | _ => some (.r j, s')
noncomputable def fnR (np n : Nat) (own : Bool) (M : MS) : FA := fun s ds => if ds.length = np then match M (ds.map some ++ List.replicate (n - np) none) s with
  | some (.rt d, _, s') => ret own s d s'
  | some (.nx, _, s') => ret own s (.d .none) s'
  | _ => none
  else none
def spN (B : Ba) (F : FA) : Sp := fun vs H Q _ => ∃ w ds s d s', Ok B w s H ∧ VRs B w vs ds ∧ F s ds = some (d, s') ∧ ∀ v w' H', w.le w' → Ok B w' s' H' → VR B w' v d → Q v H'
theorem ret_ok {B : Ba} {own : Bool} {w w' : W} {s s1 s' : Sto} {H H' : Hp} {d0 d : D} {v : V} (h : ret own s d0 s1 = some (d, s')) (g : Ok B w s H) (l : w.le w') (g' : Ok B w' s1 H') (hv : VR B w' v d0) : ∃ w2, w.le w2 ∧ Ok B w2 s' H' ∧ VR B w2 v d := by
  have cutw : ∀ {w3 : W}, w.le w3 → w.le (w3.take s.length) := fun {w3} l3 => ⟨l3.F, by
    obtain ⟨m, hm⟩ := l3.ρ
    show w.ρ <+: w3.ρ.take s.length
    rw [← hm, ← g.lr, List.take_append_of_le_length (Nat.le_refl _), List.take_length]
    exact List.prefix_rfl⟩
  unfold ret at h
  split at h
  · rename_i x
    cases h
    rcases trim_cases g g' with ⟨h, _⟩ | ⟨h, h1, h2⟩
    · rw [h]; exact ⟨w', l, g', hv⟩
    · rw [h]; exact ⟨_, cutw l, h2, hv⟩
  · rename_i j
    split at h
    · rename_i hj
      cases h
      rcases trim_cases g g' with ⟨h, _⟩ | ⟨h, h1, h2⟩
      · rw [h]; exact ⟨w', l, g', hv⟩
      · rw [h]; exact ⟨_, cutw l, h2, hv.cut fun k e => by cases e; exact hj⟩
    · split at h
      · cases h
        exact ⟨w', l, g', hv⟩
      · split at h
        · rename_i ds e1
          split at h
          · rename_i xs e2
            cases h
            rw [data_eq e2] at e1
            obtain ⟨a, h1, rfl⟩ := hv
            obtain ⟨w3, l3, g3, d3⟩ := g'.freeze e1 h1
            rcases trim_cases g g3 with ⟨h, _⟩ | ⟨h, h1, h2⟩
            · rw [h]; exact ⟨w3, l.trans l3, g3, d3⟩
            · rw [h]; exact ⟨_, cutw (l.trans l3), h2, d3⟩
          · cases h
            exact ⟨w', l, g', hv⟩
        · cases h
          exact ⟨w', l, g', hv⟩
/-- a def that may be called by its name -/
structure Fn (P : Program) (w : World) (K : PySem.W.Frag) (mg : Str → Option Value) (base : Heap) (k : Nat) (x : Str) (F : FA) : Prop where
  ex : ∃ (f : Addr) (fd : FuncData) (ps : List Str), FnOk P w K mg base CX0 k f fd ps (spN ⟨P, w, K⟩ F) ∧ mg x = some (.ref f) ∧ PySem.W.keepIn K (.ref f) = true ∧ Binds K fd ps []
theorem VRs.start {B : Ba} {w : W} : ∀ {vs : List V} {ds : List D} (n : Nat), VRs B w vs ds → Sl B w (ds.map some ++ List.replicate n none) (vs.map some ++ List.replicate n none) := fun {vs ds} n h => ⟨by simp [h.len], fun i d q => by
  by_cases hi : i < (ds.map some).length
  · rw [List.getElem?_append_left hi, List.getElem?_map] at q
    obtain ⟨d', h1, h2⟩ := Option.map_eq_some_iff.mp q
    cases h2
    obtain ⟨v, h3, h4⟩ := h.get h1
    exact ⟨v, by rw [List.getElem?_append_left (by rw [List.length_map, h.len]; simpa using hi), List.getElem?_map, h3]; rfl, h4⟩
  · rw [List.getElem?_append_right (by omega), List.getElem?_replicate] at q
    split at q <;> cases q⟩
theorem nfun {P : Program} {w : World} {K : PySem.W.Frag} {mg : Str → Option Value} {base : Heap} {x : Str} {st : Stmt} {ps N : List Str} {k : Nat} {own : Bool} {M : MS} (DD : Dfn K mg x st ps) (S : FnScope N ps (defScope st))
    (body : ∀ (f : Addr) (cdv : Value) (A : Around) (outer : List Env) (s : Shared) (H : Hp) (E : XK), Room k (A.deeper (envOfC x (defScope st) s.heap.objs.size f cdv)) →
      NSs (cxOf CX0 P w K mg base N x (defScope st) f cdv A outer s H E).nox (defBody st) M) : Fn P w K mg base (k + 1) x (fnR ps.length N.length own M) := by
  obtain ⟨f, fd, F, hm, hb⟩ := DD.ex
  have len : ∀ {s : Sto} {ds : List D} {d : D} {s' : Sto}, fnR ps.length N.length own M s ds = some (d, s') → ds.length = ps.length := fun {s ds d s'} h => by
    unfold fnR at h
    split at h
    · assumption
    · cases h
  refine ⟨f, fd, ps, F.ok S (fun vs H Q E ⟨w, ds, s, d, s', g, hv, h, _⟩ => by rw [hv.len]; exact len h) (fun cdv A outer sh H vs Q E hr ⟨w, ds, s, d, s', g, hv, h, k⟩ => ?_), hm, F.kp, hb⟩
  have hl := len h
  have go : ∀ fl e1 s1 d0, M (ds.map some ++ List.replicate (N.length - ps.length) none) s = some (fl, e1, s1) → ret own s d0 s1 = some (d, s') → (fl = .rt d0 ∨ (fl = .nx ∧ d0 = .d .none)) → ∃ t, PSs (cxOf CX0 P _ K mg base N x (defScope st) f cdv A outer sh H E).nox (defBody st) t ∧ t { nx := fun _ H' => Q .non H', rt := Q } (start N vs) H := fun fl e1 s1 d0 h1 h2 h3 => by
    refine ⟨_, body f cdv A outer sh H E hr _ _ _ _ _ s.length h1 (Nat.le_refl _), w, g, ?_, ?_⟩
    · show Sl _ w _ (vs.map some ++ List.replicate (N.length - vs.length) none)
      rw [hv.len, hl]
      exact VRs.start _ hv
    · rcases h3 with rfl | ⟨rfl, rfl⟩
      · exact fun w' v H' l g' v' => by
          obtain ⟨w2, l2, g2, v2⟩ := ret_ok h2 g (W.le.of_take l g.lr) g' v'
          exact k v w2 H' l2 g2 v2
      · exact fun w' σ' H' l g' sl => by
          obtain ⟨w2, l2, g2, v2⟩ := ret_ok h2 g (W.le.of_take l g.lr) g' vn
          exact k .non w2 H' l2 g2 v2
  unfold fnR at h
  rw [if_pos hl] at h
  split at h
  · rename_i d0 e1 s1 e0
    exact go _ _ _ _ e0 h (.inl rfl)
  · rename_i e1 s1 e0
    exact go _ _ _ _ e0 h (.inr ⟨rfl, rfl⟩)
  · cases h
/-- nothing is promised -/
theorem nfun_none {P : Program} {w : World} {K : PySem.W.Frag} {mg : Str → Option Value} {base : Heap} {x : Str} {st : Stmt} {ps N : List Str} {k : Nat} (DD : Dfn K mg x st ps) (S : FnScope N ps (defScope st)) : Fn P w K mg base (k + 1) x (fun _ _ => none) := by
  obtain ⟨f, fd, F, hm, hb⟩ := DD.ex
  exact ⟨f, fd, ps, F.ok S (fun vs H Q E ⟨w, ds, s, d, s', g, hv, h, _⟩ => by cases h) (fun cdv A outer sh H vs Q E hr ⟨w, ds, s, d, s', g, hv, h, k⟩ => by cases h), hm, F.kp, hb⟩
theorem Fn.mono {P : Program} {w : World} {K : PySem.W.Frag} {mg : Str → Option Value} {base : Heap} {x : Str} {F : FA} {k j : Nat} (c : Fn P w K mg base k x F) (h : k ≤ j) : Fn P w K mg base j x F := let ⟨f, fd, ps, F, r⟩ := c.ex; ⟨f, fd, ps, F.mono h, r⟩
theorem n_call {F : FA} {x : Str} {k j : Nat} (c : Fn X.prog X.w X.K X.mg X.base k x F) (ha : NA X (ex :: es) ms) (hr : Room j X.A) (hk : k ≤ j := by omega) (cl : Cl X x ex es pos := by exact ⟨rfl, rfl, rfl⟩) (hdb : (x == ("__debug__" : Str)) = false := by decide) : NE X (.Call (.Name x p) (ex :: es) [] pos) (eCall F ms) := fun e s z s' h => by
  obtain ⟨ds, s1, e1, e2⟩ := call_cases h
  obtain ⟨f, fd, ps, FF, hm, kp, b⟩ := c.ex
  refine PE.imp (pe_call FF (hr.mono hk) cl.1 hm kp b .nil pass0 (ha _ _ _ _ e1) hdb cl.2.1 cl.2.2) fun σ H Q ⟨w, g, l, q⟩ => ⟨w, g, l, fun vs w1 H1 l1 g1 v1 => ?_⟩
  show spN _ F (vs ++ []) H1 Q E0
  rw [List.append_nil]
  exact ⟨w1, ds, s1, z, s', g1, v1, e2, fun v w2 H2 l2 g2 v2 => q v w2 H2 (l1.trans l2) g2 v2⟩
end
end N

namespace N
open PySem L2 PyProof.Rows
open Z (Ext dpUp dpsUp dpsLen dpsGet DxO KyD DEn Cl cut offv bl Dfn)
section
variable {X : Cx} {ex a b c tg iter elt : Expr} {es ifs : List Expr} {st : Stmt} {rest body orelse : List Stmt} {m ma mb mc : ME} {ms : MA} {mt mu : MT} {pos p : Pos} {M M1 M2 : MS}

/-- a method of a list of the store: what it does to the list, what it answers -/
abbrev FM := Sto → List D → List D → Option (List D × D)
def eMeth (f : FM) (ma : ME) (ms : MA) : ME := fun e s => match ma e s with
  | some (.r j, s1) => match s1[j]? with
    | some (.lst _) => match ms e s1 with
      | some (ds, s2) => match s2[j]? with
        | some (.lst xs) => match f s2 xs ds with
          | some (ys, z) => some (z, s2.set j (.lst ys))
          | none => none
        | _ => none
      | none => none
    | _ => none
  | _ => none
def MetS (X : Cx) (id : String) (f : FM) : Prop := ∀ s xs ds ys z, f s xs ds = some (ys, z) → ∃ q, MtR X id q ∧ ∀ p vs us w H (Q : VK), Ok (ba X) w s H → H p = some (.lst vs) → VRs (ba X) w vs xs → VRs (ba X) w us ds → (∀ vs' v, VRs (ba X) w vs' ys → VR (ba X) w v z → Q v (upd H p (.lst vs'))) → q (.ref p) us H Q
theorem meth_cases {f : FM} {e : Lo} {s s' : Sto} {z : D} (h : eMeth f ma ms e s = some (z, s')) : ∃ j s1 x1 ds s2 xs ys, ma e s = some (.r j, s1) ∧ s1[j]? = some (.lst x1) ∧ ms e s1 = some (ds, s2) ∧ s2[j]? = some (.lst xs) ∧ f s2 xs ds = some (ys, z) ∧ s' = s2.set j (.lst ys) := by
  unfold eMeth at h
  split at h
  · rename_i j s1 e1
    split at h
    · rename_i x1 e2
      split at h
      · rename_i ds s2 e3
        split at h
        · rename_i xs e4
          split at h
          · rename_i ys zz e5
            cases h
            exact ⟨j, s1, x1, ds, s2, xs, ys, e1, e2, e3, e4, e5, rfl⟩
          · cases h
        · cases h
      · cases h
    · cases h
  · cases h
theorem n_meth {f : FM} {id : String} {name : Str} {apos : Pos} (hf : MetS X id f) (ha : NE X a ma) (hs : NA X (ex :: es) ms) (slot : Slot "list" name id) (hty : typeOf (.builtin id) = pure (.type "method_descriptor"))
    (hbase : attributeBase a name X.env (eval a X.env) = eval a X.env := by rfl)
    (hfew : ((backTo pos (starEach (ex :: es) X.env)).all (fun x => !x.1) && (backToKw pos (keywordEach [] X.env)).all (fun x => x.1.isSome)
      && decide ((ex :: es).length + ([] : List Keyword).length + (if ([] : List Keyword).isEmpty then 0 else 1) < 30)) = true := by rfl)
    (hline : (apos.endLine == pos.line) = true := by rfl) (hst : starEach (ex :: es) X.env = (false, eval ex X.env) :: starEach es X.env := by rfl) (hplain : (backTo pos (starEach es X.env)).any (·.1) = false := by rfl) :
    NE X (.Call (.Attribute a name apos) (ex :: es) [] pos) (eMeth f ma ms) := fun e s z s' h => by
  obtain ⟨j, s1, x1, ds, s2, xs, ys, e1, e2, e3, e4, e5, rfl⟩ := meth_cases h
  obtain ⟨q, hq, run⟩ := hf _ _ _ _ _ e5
  refine PE.imp (pe_bm PySem.F.plainAttrs_list slot hty hq (ha _ _ _ _ e1) (hs _ _ _ _ e3) hbase hfew hline hst hplain) fun σ H Q ⟨w, g, l, k⟩ => ⟨w, g, l, fun v w1 H1 l1 g1 v1 => ?_⟩
  obtain ⟨p1, vs1, rfl, h1, _, _⟩ := chg_lst g1 v1 e2
  refine ⟨.inl ⟨rfl, vs1, .of h1⟩, w1, g1, l.up l1, fun us w2 H2 l2 g2 v2 => ?_⟩
  obtain ⟨p2, vs2, ep, h2, h3, h4⟩ := chg_lst g2 (v1.up l2) e4
  cases ep
  exact run _ vs2 us w2 H2 Q g2 h2 h3 v2 fun vs' v hv' hv => k v w2 _ (l1.trans l2) (h4 _ _ hv') hv
def fApp : FM := fun _ xs ds => match ds with
  | [d] => if xs.length < lim then some (xs ++ [d], .d .none) else none
  | _ => none
def fExt : FM := fun s xs ds => match ds with
  | [d] => match asL s d with
    | some es => if xs.length + es.length ≤ lim then some (xs ++ es, .d .none) else none
    | none => none
  | _ => none
def fPopAt : FM := fun _ xs ds => match ds with
  | [.d (.int i)] => if -(2 ^ 63) ≤ i ∧ i < 2 ^ 63 then match seqIndex? i xs.length with
    | some k => match xs[k]? with
      | some y => some (xs.eraseIdx k, y)
      | none => none
    | none => none
    else none
  | _ => none
theorem f_popAt : MetS X "list.pop" fPopAt := fun s xs ds ys z h => by
  unfold fPopAt at h
  split at h
  · rename_i i
    split at h
    · rename_i hi
      split at h
      · rename_i kk e0
        split at h
        · rename_i y e1
          cases h
          refine ⟨_, mt_popAt, fun p vs us w H Q g hp hv hu k => ?_⟩
          obtain ⟨u, rfl, hu1⟩ := vrs1 hu
          cases vr_int hu1
          obtain ⟨v, h1, h2⟩ := hv.get e1
          exact ⟨p, vs, i, kk, v, rfl, rfl, hp, hi.1, hi.2, by rw [hv.len]; exact e0, h1, k _ _ (hv.eraseIdx kk) h2⟩
        · cases h
      · cases h
    · cases h
  · cases h

def eDic : ME := fun _ s => some (.r s.length, s ++ [.dic []])
theorem n_dic : NE X (.Dict [] [] pos) eDic := fun e s d s' h => by
  cases h
  refine PE.imp Z.pe_newX fun σ H Q ⟨w, g, l, k⟩ => fun p hp => ?_
  exact k _ _ _ Ok.new_le (g.new hp ⟨ext_none g.ext hp, [], upd_same, trivial⟩) g.new_at
theorem inq_cases {neg : Bool} {x : PyData} {ds : List PyData} {k : Bool} (h : cInQ neg x ds = some k) : PyData.plainAll ds = true ∧ x.plain = true ∧ min (PyData.depthAll ds) x.depth ≤ 60 ∧ k = (if neg then !(ds.any fun z => PyData.eqv z x) else ds.any fun z => PyData.eqv z x) := by
  unfold cInQ at h
  split at h
  · rename_i hc
    cases h
    exact ⟨hc.1, hc.2.1, hc.2.2, rfl⟩
  · cases h
theorem cIn_ok {op : CmpOp} {neg : Bool} (h1 : OpR X (compareOp op) (Z.rInZ X.K X.A.units neg)) (h2 : OpR X (compareOp op) (Z.rInX X neg)) (hu : X.A.units + 64 < cLine) {s : Sto} {a b : D} {k : Bool} (e : cIn neg s a b = some k) (ndk : ∀ j kvs, b = .r j → s[j]? ≠ some (.dk kvs)) :
    ∃ q, OpR X (compareOp op) q ∧ BiN (ba X) q s a b (.d (.bool k)) s := by
  have seq : ∀ {c : PyData} {ds : List PyData} {x : PyData}, pd s b = some c → (c = .list ds ∨ c = .tuple ds) → pd s a = some x → cInQ neg x ds = some k → ∃ q, OpR X (compareOp op) q ∧ BiN (ba X) q s a b (.d (.bool k)) s := fun {c ds x} hb hc ha hq => by
    obtain ⟨p1, p2, p3, rfl⟩ := inq_cases hq
    refine ⟨_, h1, fun u v w H Q g v1 v2 q => ⟨x, c, ds, pd_ok ha g v1, pd_ok hb g v2, hc, p1, p2, by show X.A.units + 1 + _ < _; omega, q _ w H (W.le.refl w) g vb⟩⟩
  unfold cIn at e
  split at e
  · split at e
    · rename_i x e1
      exact seq rfl (.inr rfl) e1 e
    · cases e
  · split at e
    · rename_i x e1
      exact seq rfl (.inl rfl) e1 e
    · cases e
  · rename_i j
    split at e
    · rename_i ds e1
      split at e
      · rename_i xs e2
        split at e
        · rename_i x e3
          refine seq (c := .list xs) ?_ (.inl rfl) e3 e
          show (match s[j]? with
            | some (.lst ds) => match data ds with
              | some xs => some (PyData.list xs)
              | none => none
            | _ => none) = _
          rw [e1]
          simp only [e2]
        · cases e
      · cases e
    · rename_i kvs e1
      split at e
      · rename_i x
        split at e
        · rename_i hk
          cases e
          refine ⟨_, h2, fun u v w H Q g v1 v2 q => ?_⟩
          obtain ⟨b1, rfl, kb⟩ := key_ok hk v1
          obtain ⟨p1, hp1, rfl⟩ := v2
          obtain ⟨_, xs, q1, q2⟩ := g.ce _ _ p1 e1 hp1
          refine ⟨p1, b1, xs, x, rfl, rfl, q1, q2.ky g.ext, ⟨dpUp g.ext _ _ kb.1, kb.2⟩, ?_⟩
          rw [q2.has]
          exact q _ w H (W.le.refl w) g vb
        · cases e
      · cases e
    · rename_i kvs e1
      exact absurd e1 (ndk j kvs rfl)
    · cases e
  · cases e
noncomputable def dGet (kvs : List (PyData × D)) (x : PyData) : Option D := (kvs.find? fun kv => decide (kv.1 = x)).map (·.2)
theorem DR.get {B : Ba} {w : W} {x : PyData} {d : D} : ∀ {xs : List DEn} {kvs : List (PyData × D)}, DR B w xs kvs → dGet kvs x = some d → ∃ c u v, atKey xs x = some (c, u) ∧ RelV v u ∧ VR B w v d
  | [], [], _, h => by cases h
  | e :: xs, kv :: kvs, ⟨⟨h1, h2, vv, h4, h5⟩, h6⟩, h => by
    unfold dGet at h
    unfold atKey
    rw [List.find?_cons] at h ⊢
    by_cases hk : kv.1 = x
    · rw [h1]
      simp only [hk, decide_true] at h ⊢
      cases h
      exact ⟨_, _, vv, rfl, h4, h5⟩
    · rw [h1]
      simp only [hk, decide_false] at h ⊢
      exact DR.get h6 h
  | [], _ :: _, h, _ => h.elim
  | _ :: _, [], h, _ => h.elim
/-- d[k] for dicts with tuples as keys; else an item -/
noncomputable def eIxD (ma mb : ME) : ME := eBin (fun s a b => match a, b with
  | .r j, .d x => match s[j]? with
    | some (.dic kvs) => if isKey x then match dGet kvs x with
        | some d => some (d, s)
        | none => none
      else none
    | _ => none
  | _, _ => none) ma mb
theorem n_ixD (hu : X.A.units + 64 < cLine) (ha : NE X a ma) (hb : NE X b mb) (hs : PlainIx b := by intro _ _; rfl) : NE X (.Subscript a b pos) (eIxD ma mb) := fun e s z s' h => by
  obtain ⟨x, s1, y, s2, e1, e2, e3⟩ := bin_cases h
  split at e3
  · rename_i j x
    split at e3
    · rename_i kvs e4
      split at e3
      · rename_i hk
        split at e3
        · rename_i d e5
          cases e3
          refine PE.imp (pe_ix (Z.ix_X (by omega)) (ha _ _ _ _ e1) (hb _ _ _ _ e2) hs) (bi_run fun u v w H Q g v1 v2 q => ?_)
          obtain ⟨b1, rfl, kb⟩ := key_ok hk v2
          obtain ⟨p1, hp1, rfl⟩ := v1
          obtain ⟨_, xs, q1, q2⟩ := g.ce _ _ p1 e4 hp1
          obtain ⟨c, uu, vv, h5, h6, h7⟩ := q2.get e5
          exact ⟨p1, b1, xs, x, c, uu, vv, rfl, rfl, q1, q2.ky g.ext, ⟨dpUp g.ext _ _ kb.1, kb.2⟩, h5, h6, q vv w H (W.le.refl w) g h7⟩
        · cases e3
      · cases e3
    · cases e3
  · cases e3
/-- d[k] = v -/
noncomputable def dPut (kvs : List (PyData × D)) (x : PyData) (d : D) : List (PyData × D) := if dHas kvs x then kvs.map fun kv => if kv.1 = x then (kv.1, d) else kv else kvs ++ [(x, d)]
theorem DR.len {B : Ba} {w : W} : ∀ {xs : List DEn} {kvs : List (PyData × D)}, DR B w xs kvs → xs.length = kvs.length
  | [], [], _ => rfl
  | v :: vs, d :: ds, ⟨h1, h2⟩ => by simp [DR.len h2]
  | [], _ :: _, h => h.elim
  | _ :: _, [], h => h.elim
theorem DR.map {B : Ba} {w : W} {x : PyData} {d : D} {u : Value} {v : V} (hu : RelV v u) (hv : VR B w v d) : ∀ {xs : List DEn} {kvs : List (PyData × D)}, DR B w xs kvs → DR B w (xs.map (putAt x u)) (kvs.map fun kv => if kv.1 = x then (kv.1, d) else kv)
  | [], [], _ => trivial
  | e :: xs, kv :: kvs, ⟨⟨h1, h2, h3⟩, h⟩ => by
    refine ⟨?_, DR.map hu hv h⟩
    unfold putAt
    by_cases hk : kv.1 = x
    · rw [if_pos (by rw [h1]; simpa using hk)]
      dsimp only
      rw [if_pos hk]
      exact ⟨h1, h2, v, hu, hv⟩
    · rw [if_neg (by rw [h1]; simpa using hk)]
      dsimp only
      rw [if_neg hk]
      exact ⟨h1, h2, h3⟩
  | [], _ :: _, h => h.elim
  | _ :: _, [], h => h.elim
theorem DR.app {B : Ba} {w : W} {e : DEn} {kv : PyData × D} (he : e.1 = kv.1 ∧ KyD B.K w.F e.2.1 e.1 ∧ ∃ vv, RelV vv e.2.2 ∧ VR B w vv kv.2) : ∀ {xs : List DEn} {kvs : List (PyData × D)}, DR B w xs kvs → DR B w (xs ++ [e]) (kvs ++ [kv])
  | [], [], _ => ⟨he, trivial⟩
  | _ :: _, _ :: _, ⟨h1, h⟩ => ⟨h1, DR.app he h⟩
  | [], _ :: _, h => h.elim
  | _ :: _, [], h => h.elim
theorem DR.put {B : Ba} {w : W} {x : PyData} {d : D} {b : Addr} {u : Value} {v : V} {xs : List DEn} {kvs : List (PyData × D)} (h : DR B w xs kvs) (kb : KyD B.K w.F b x) (hu : RelV v u) (hv : VR B w v d) : DR B w (storedH xs x b u) (dPut kvs x d) := by
  unfold storedH dPut
  rw [h.has]
  split
  · exact h.map hu hv
  · exact h.app ⟨rfl, kb, v, hu, hv⟩
noncomputable def sPutD (ma mi mv : ME) : MS := fun e s => match mv e s with
  | some (d, s1) => match ma e s1 with
    | some (.r j, s2) => match mi e s2 with
      | some (.d x, s3) => match s3[j]? with
        | some (.dic kvs) => if isKey x ∧ kvs.length < lim then some (.nx, e, s3.set j (.dic (dPut kvs x d))) else none
        | _ => none
      | _ => none
    | _ => none
  | none => none
theorem ns_putD {tpos : Pos} {mi mv : ME} (hu : X.A.units + 64 < cLine) (hv : NE X ex mv) (ha : NE X a ma) (hi : NE X b mi)
    (hsub : ∀ v, assign (.Subscript a b tpos) X.env v = (do
      let ov ← holding [v] (eval a X.env)
      let iv ← holding [v, ov] (eval b X.env)
      standAt tpos
      holding [v, ov, iv] (setItem ov iv v)
      release [v, ov, iv] []) := by intro _; rfl)
    (hs : swapsWithSole [.Subscript a b tpos] ex pos.line X.env = pure false := by rfl) (hw : swappedStores [.Subscript a b tpos] ex X.env = pure none := by rfl) (h1 : (assignEach [.Subscript a b tpos] X.env).map (·.2) = [assign (.Subscript a b tpos) X.env] := by rfl) :
    NS X (.Assign [.Subscript a b tpos] ex pos) (sPutD ma mi mv) := fun e s fl e' s' bb hm hb => by
  unfold sPutD at hm
  split at hm
  · rename_i d s1 e1
    split at hm
    · rename_i j s2 e2
      split at hm
      · rename_i x s3 e3
        split at hm
        · rename_i kvs e4
          split at hm
          · rename_i hk
            cases hm
            refine Z.PS.imp (ps_asg (hv _ _ _ _ e1) (pg_sub (ha _ _ _ _ e2) (hi _ _ _ _ e3) (Z.put_X (by omega)) hsub) hs hw h1) fun Dn σ H ⟨w, g, l, k⟩ => ⟨w, g, l, fun v w1 H1 l1 g1 v1 => ⟨w1, g1, l.up l1, fun u w2 H2 l2 g2 v2 => ⟨w2, g2, (l.up l1).up l2, fun z w3 H3 l3 g3 v3 => ?_⟩⟩⟩
            obtain ⟨b1, rfl, kb⟩ := key_ok hk.1 v3
            obtain ⟨p1, hp1, rfl⟩ := v2.up l3
            obtain ⟨hF, xs, q1, q2⟩ := g3.ce _ _ p1 e4 hp1
            refine ⟨p1, b1, xs, x, rfl, rfl, q1, q2.ky g3.ext, ⟨dpUp g3.ext _ _ kb.1, kb.2⟩, ⟨xs.map (·.1), by rw [List.length_map, q2.len]; exact Nat.lt_trans hk.2 lim_lt, fun e he => List.mem_map.mpr ⟨e, he, rfl⟩⟩, fun uu hu => ?_⟩
            exact k w3 σ _ (((l1.trans l2).trans l3).cut bb) (g3.chg hp1 hF ⟨hF, _, upd_same, q2.put kb hu ((v1.up l2).up l3)⟩) (((l.up l1).up l2).up l3)
          · cases hm
        · cases hm
      · cases hm
    · cases hm
  · cases hm
end
end N

namespace N
open PySem L2 PyProof.Rows
open Z (Ext dpUp dpsUp dpsLen dpsGet DxO KyD DEn Cl cut offv bl Dfn)
section
variable {X : Cx} {ex a b c tg iter elt : Expr} {es ifs : List Expr} {st : Stmt} {rest body orelse : List Stmt} {m ma mb mc : ME} {ms : MA} {mt mu : MT} {pos p : Pos} {M M1 M2 : MS}
/-- an item of whatever it is -/
noncomputable def gIxU (s : Sto) (a b : D) : Option D := match b with
  | .d (.int i) => gIx s a i
  | .d x => match a with
    | .r j => match s[j]? with
      | some (.dic kvs) => if isKey x then dGet kvs x else none
      | _ => none
    | _ => none
  | _ => none
noncomputable def eItem (ma mb : ME) : ME := eBin (fun s a b => match gIxU s a b with
  | some d => some (d, s)
  | none => none) ma mb
theorem n_item (hu : X.A.units + 64 < cLine) (ha : NE X a ma) (hb : NE X b mb) (hs : PlainIx b := by intro _ _; rfl) : NE X (.Subscript a b pos) (eItem ma mb) := fun e s z s' h => by
  obtain ⟨x, s1, y, s2, e1, e2, e3⟩ := bin_cases h
  split at e3
  · rename_i d e4
    cases e3
    unfold gIxU at e4
    split at e4
    · rename_i i
      refine n_ix ha hb hs e s z s' ?_
      unfold eIx eBin
      simp only [e1, e2, e4]
    · rename_i y' _
      split at e4
      · rename_i j
        split at e4
        · rename_i kvs e5
          split at e4
          · rename_i hk
            refine n_ixD hu ha hb hs e s z s' ?_
            unfold eIxD eBin
            simp only [e1, e2, e5, hk, e4, if_true]
          · cases e4
        · cases e4
      · cases e4
    · cases e4
  · cases e3
/-- a store to an item of whatever it is -/
noncomputable def sPutU (ma mi mv : ME) : MS := fun e s => match sPut ma mi mv e s with
  | some r => some r
  | none => sPutD ma mi mv e s
theorem ns_putU {tpos : Pos} {mi mv : ME} (hu : X.A.units + 64 < cLine) (hv : NE X ex mv) (ha : NE X a ma) (hi : NE X b mi)
    (hsub : ∀ v, assign (.Subscript a b tpos) X.env v = (do
      let ov ← holding [v] (eval a X.env)
      let iv ← holding [v, ov] (eval b X.env)
      standAt tpos
      holding [v, ov, iv] (setItem ov iv v)
      release [v, ov, iv] []) := by intro _; rfl)
    (hs : swapsWithSole [.Subscript a b tpos] ex pos.line X.env = pure false := by rfl) (hw : swappedStores [.Subscript a b tpos] ex X.env = pure none := by rfl) (h1 : (assignEach [.Subscript a b tpos] X.env).map (·.2) = [assign (.Subscript a b tpos) X.env] := by rfl) :
    NS X (.Assign [.Subscript a b tpos] ex pos) (sPutU ma mi mv) := fun e s fl e' s' bb hm hb => by
  unfold sPutU at hm
  split at hm
  · rename_i r e1
    cases hm
    exact ns_put hv ha hi hsub hs hw h1 _ _ _ _ _ _ e1 hb
  · exact ns_putD hu hv ha hi hsub hs hw h1 _ _ _ _ _ _ hm hb

def spE (K : PySem.W.Frag) : Sp := fun vs H Q _ => ∃ a ns, List.length ns ≤ 63 ∧ vs = [.ref a] ∧ SqL K H a (ns.map V.int) ∧ ∀ H', Q (.bl true) H'
theorem head_ok {K : PySem.W.Frag} {H : Hp} {a : Addr} {ns : List Int} (hl : ns.length ≤ 63) (hS : SqL K H a (ns.map V.int)) : spE K [.ref a] H (fun v _ => v = .bl true) fun _ _ _ => False := ⟨a, ns, hl, rfl, hS, fun _ => rfl⟩
theorem law_fn {P : Program} {w : World} {K : PySem.W.Frag} {mg : Str → Option Value} {base : Heap} {x : Str} {st : Stmt} {N : List Str} {k : Nat} {M : MS} {f : Addr} {fd : FuncData} (F : Fun K x x st f fd) (S : FnScope N ["script"] (defScope st))
    (body : ∀ (f : Addr) (cdv : Value) (A : Around) (outer : List Env) (s : Shared) (H : Hp) (E : XK), Room k (A.deeper (envOfC x (defScope st) s.heap.objs.size f cdv)) →
      NSs (cxOf CX0 P w K mg base N x (defScope st) f cdv A outer s H E).nox (defBody st) M)
    (run : ∀ ns : List Int, ns.length ≤ 63 → ∃ s', fnR 1 N.length false M [] [.d (.list (ns.map .int))] = some (.d (.bool true), s')) : FnOk P w K mg base CX0 (k + 1) f fd ["script"] (spE K) := by
  refine F.ok S (fun vs H Q E ⟨a, ns, hl, e, _⟩ => by rw [e]; rfl) (fun cdv A outer sh H vs Q E hr ⟨a, ns, hl, e, hS, q⟩ => ?_)
  subst e
  obtain ⟨s', h⟩ := run ns hl
  have g : Ok ⟨P, w, K⟩ ⟨H, []⟩ [] H := ⟨Ext.refl _, rfl, List.nodup_nil, fun a h => by simp at h, fun j c a h => by simp at h⟩
  have hv : VRs ⟨P, w, K⟩ ⟨H, []⟩ [.ref a] [.d (.list (ns.map .int))] := ⟨.lst hS (Z.dps_of_ints K H ns), trivial⟩
  have go : ∀ fl e1 s1 d0, M ([D.d (.list (ns.map .int))].map some ++ List.replicate (N.length - 1) none) [] = some (fl, e1, s1) → ret false [] d0 s1 = some (.d (.bool true), s') → (fl = .rt d0 ∨ (fl = .nx ∧ d0 = .d .none)) → ∃ t, PSs (cxOf CX0 P _ K mg base N x (defScope st) f cdv A outer sh H E).nox (defBody st) t ∧ t { nx := fun _ H' => Q .non H', rt := Q } (start N [.ref a]) H := fun fl e1 s1 d0 h1 h2 h3 => by
    refine ⟨_, body f cdv A outer sh H E hr _ _ _ _ _ 0 h1 (Nat.zero_le _), ⟨H, []⟩, g, VRs.start _ hv, ?_⟩
    rcases h3 with rfl | ⟨rfl, rfl⟩
    · exact fun w' v H' l g' v' => by
        obtain ⟨w2, l2, g2, v2⟩ := ret_ok h2 g (W.le.of_take l g.lr) g' v'
        cases vr_bl v2
        exact q H'
    · exact fun w' σ' H' l g' sl => by
        obtain ⟨w2, l2, g2, v2⟩ := ret_ok h2 g (W.le.of_take l g.lr) g' vn
        cases v2
  unfold fnR at h
  rw [if_pos (show List.length [D.d (PyData.list (List.map PyData.int ns))] = 1 from rfl)] at h
  split at h
  · rename_i d0 e1 s1 e0
    exact go _ _ _ _ e0 h (.inl rfl)
  · rename_i e1 s1 e0
    exact go _ _ _ _ e0 h (.inr ⟨rfl, rfl⟩)
  · cases h
end
end N

namespace N
open PySem L2 PyProof.Rows
open Sem (wp)
open AutoSeq1 (wpAny_loadPart')
section
variable {prog : Program} {w : World} {A : Around} {E : Value → Shared → Prop} {s : Shared}
end
open Z (Ext dpUp dpsUp dpsLen dpsGet DxO KyD DEn Cl cut offv bl Dfn)
section
variable {X : Cx} {ex a b c tg iter elt : Expr} {es ifs elts : List Expr} {st : Stmt} {rest body orelse : List Stmt} {m ma mb mc : ME} {ms : MA} {mt mu : MT} {pos p tpos : Pos} {M M1 M2 : MS}
/-- pairs of places and data -/
def enumD (xs : List PyData) : List D := (List.range xs.length).zipWith (fun i x => .d (.tuple [.int (i : Nat), x])) xs
/-- over enumerate(x), x a tuple or a list, of data -/
def iEnum (ms : MA) : MI := fun e s => match ms e s with
  | some ([.d (.tuple xs)], s1) => some (enumD xs, none, s1)
  | some ([.d (.list xs)], s1) => some (enumD xs, none, s1)
  | some ([.r j], s1) => match s1[j]? with
    | some (.lst ds) => match data ds with
      | some xs => some (enumD xs, some (j, ds), s1)
      | none => none
    | _ => none
  | _ => none
end
end N

namespace N
open PySem L2 PyProof.Rows
open Z (Ext dpUp dpsUp dpsLen dpsGet DxO KyD DEn Cl cut offv bl Dfn)
def kGet (kvs : List (Key × D)) (k : Key) : Option D := (kvs.find? fun kv => decide (kv.1 = k)).map (·.2)
def kPut (kvs : List (Key × D)) (k : Key) (d : D) : List (Key × D) := if kHas kvs k then kvs.map fun kv => if kv.1 = k then (kv.1, d) else kv else kvs ++ [(k, d)]
section
variable {B : Ba} {w : W} {k : Key}
theorem KR.has : ∀ {xs : List (Key × V)} {kvs : List (Key × D)}, KR B w xs kvs → (xs.any fun kv => decide (kv.1 = k)) = kHas kvs k
  | [], [], _ => rfl
  | e :: xs, kv :: kvs, ⟨⟨h1, _⟩, h⟩ => by
    unfold kHas
    rw [List.any_cons, List.any_cons, h1, KR.has h]
    rfl
  | [], _ :: _, h => h.elim
  | _ :: _, [], h => h.elim
theorem KR.val : ∀ {xs : List (Key × V)} {kvs : List (Key × D)}, KR B w xs kvs → (valV xs k).isSome = kHas kvs k ∧ ∀ d, kGet kvs k = some d → ∃ v, valV xs k = some v ∧ VR B w v d
  | [], [], _ => ⟨rfl, fun d h => by cases h⟩
  | e :: xs, kv :: kvs, ⟨⟨h1, h2⟩, h⟩ => by
    obtain ⟨ih1, ih2⟩ := KR.val h
    unfold valV kGet at *
    unfold kHas at *
    rw [Option.isSome_map] at ih1
    rw [List.any_cons, List.find?_cons, List.find?_cons, h1]
    by_cases hk : kv.1 = k
    · simp only [hk, decide_true, Option.map_some, Option.isSome_some, Bool.true_or, true_and]
      intro d hd
      cases hd
      exact ⟨_, rfl, h2⟩
    · simp only [hk, decide_false, Bool.false_or]
      refine ⟨by rw [Option.isSome_map]; exact ih1, ih2⟩
  | [], _ :: _, h => h.elim
  | _ :: _, [], h => h.elim
theorem KR.put {v : V} {d : D} (hv : VR B w v d) {xs : List (Key × V)} {kvs : List (Key × D)} (h : KR B w xs kvs) : KR B w (putK xs k v) (kPut kvs k d) := by
  have mp : ∀ {xs : List (Key × V)} {kvs : List (Key × D)}, KR B w xs kvs → KR B w (xs.map fun kv => if kv.1 = k then (kv.1, v) else kv) (kvs.map fun kv => if kv.1 = k then (kv.1, d) else kv) := by
    intro xs
    induction xs with
    | nil => intro kvs h; cases kvs with
      | nil => trivial
      | cons => exact h.elim
    | cons e xs ih => intro kvs h; cases kvs with
      | nil => exact h.elim
      | cons kv kvs =>
        obtain ⟨⟨h1, h2⟩, h3⟩ := h
        refine ⟨?_, ih h3⟩
        dsimp only
        by_cases hk : kv.1 = k
        · rw [if_pos (h1.trans hk), if_pos hk]; exact ⟨h1, hv⟩
        · rw [if_neg (by rw [h1]; exact hk), if_neg hk]; exact ⟨h1, h2⟩
  have ap : ∀ {xs : List (Key × V)} {kvs : List (Key × D)}, KR B w xs kvs → KR B w (xs ++ [(k, v)]) (kvs ++ [(k, d)]) := by
    intro xs
    induction xs with
    | nil => intro kvs h; cases kvs with
      | nil => exact ⟨⟨rfl, hv⟩, trivial⟩
      | cons => exact h.elim
    | cons e xs ih => intro kvs h; cases kvs with
      | nil => exact h.elim
      | cons kv kvs => exact ⟨h.1, ih h.2⟩
  unfold putK kPut
  rw [h.has]
  split
  · exact mp h
  · exact ap h
end
theorem chg_dk {B : Ba} {w : W} {s : Sto} {H : Hp} {v : V} {j : Nat} {kvs : List (Key × D)} (g : Ok B w s H) (hv : VR B w v (.r j)) (hs : s[j]? = some (.dk kvs)) :
    ∃ a xs, v = .ref a ∧ H a = some (.dK xs) ∧ KR B w xs kvs ∧ ∀ kvs' xs', KR B w xs' kvs' → Ok B w (s.set j (.dk kvs')) (upd H a (.dK xs')) := by
  obtain ⟨a, h1, rfl⟩ := hv
  obtain ⟨hF, xs, h2, h3⟩ := g.ce _ _ a hs h1
  exact ⟨a, xs, rfl, h2, h3, fun kvs' xs' h => g.chg h1 hF ⟨hF, xs', upd_same, h⟩⟩
section
variable {X : Cx} {ex a b c tg iter elt kx vx : Expr} {es ifs elts : List Expr} {st : Stmt} {rest body orelse : List Stmt} {m ma mb mc : ME} {ms : MA} {mt mu : MT} {pos p tpos : Pos} {M M1 M2 : MS}
def eDicK : ME := fun _ s => some (.r s.length, s ++ [.dk []])
theorem n_dicK : NE X (.Dict [] [] pos) eDicK := fun e s d s' h => by
  cases h
  refine PE.imp pe_dnewK fun σ H Q ⟨w, g, l, k⟩ => fun p hp => ?_
  exact k _ _ _ Ok.new_le (g.new hp ⟨ext_none g.ext hp, [], upd_same, trivial⟩) g.new_at
theorem in_dk {neg : Bool} {s : Sto} {a : D} {j : Nat} {kvs : List (Key × D)} {k : Bool} (h : cIn neg s a (.r j) = some k) (e : s[j]? = some (.dk kvs)) : ∃ x kk, a = .d x ∧ keyOf x = some kk ∧ k = (if neg then !kHas kvs kk else kHas kvs kk) := by
  unfold cIn at h
  simp only [e] at h
  split at h
  · rename_i x
    split at h
    · rename_i kk e2
      cases h
      exact ⟨x, kk, rfl, e2, rfl⟩
    · cases h
  · cases h
theorem nt_in {neg : Bool} {op : CmpOp} (hop : (op = .In ∧ neg = false) ∨ (op = .NotIn ∧ neg = true)) (hu : X.A.units + 64 < cLine) (ha : NE X a ma) (hb : NE X b mb) (hm : behindInMarks op b = false := by rfl) : NT X (.Compare a [op] [b] pos) (tCmp (cIn neg) ma mb) := fun e s k s' h => by
  unfold tCmp at h
  split at h
  · rename_i x s1 e1
    split at h
    · rename_i y s2 e2
      split at h
      · rename_i k' ek
        cases h
        by_cases hd : ∃ j kvs, y = .r j ∧ s'[j]? = some (.dk kvs)
        · obtain ⟨j, kvs, rfl, hj⟩ := hd
          obtain ⟨dx, kk, rfl, hk, rfl⟩ := in_dk ek hj
          rcases hop with ⟨rfl, rfl⟩ | ⟨rfl, rfl⟩
          · refine PT.imp (pt_cmp (pc_din (by omega) (ha _ _ _ _ e1) (hb _ _ _ _ e2)) hm) fun σ H Q ⟨w, g, l, q⟩ => ⟨w, g, l, fun v w1 H1 l1 g1 v1 => ⟨w1, g1, l.up l1, fun u w2 H2 l2 g2 v2 => ?_⟩⟩
            obtain ⟨p1, xs, rfl, h2, h3, _⟩ := chg_dk g2 v2 hj
            have hv := keyOf_ok hk (v1.up l2)
            refine ⟨p1, valV xs kk, rfl, .inl ⟨xs, kk, .inl h2, hv, rfl⟩, _, rfl, ?_⟩
            rw [(h3.val (k := kk)).1]
            exact q w2 H2 (l1.trans l2) g2
          · refine PT.imp (pt_cmp (pc_dnotin (by omega) (ha _ _ _ _ e1) (hb _ _ _ _ e2)) hm) fun σ H Q ⟨w, g, l, q⟩ => ⟨w, g, l, fun v w1 H1 l1 g1 v1 => ⟨w1, g1, l.up l1, fun u w2 H2 l2 g2 v2 => ?_⟩⟩
            obtain ⟨p1, xs, rfl, h2, h3, _⟩ := chg_dk g2 v2 hj
            have hv := keyOf_ok hk (v1.up l2)
            refine ⟨p1, valV xs kk, rfl, .inl ⟨xs, kk, .inl h2, hv, rfl⟩, _, rfl, ?_⟩
            rw [(h3.val (k := kk)).1]
            exact q w2 H2 (l1.trans l2) g2
        · have nd : ∀ j kvs, y = .r j → s'[j]? ≠ some (.dk kvs) := fun j kvs e1 e2 => hd ⟨j, kvs, e1, e2⟩
          have go : ∀ {q : R2}, OpR X (compareOp op) q → BiN (ba X) q s' x y (.d (.bool k)) s' → PT X (.Compare a [op] [b] pos) (tT (ba X) e s k s') := fun hq hB => by
            refine PT.imp (pt_cmpR hq (ha _ _ _ _ e1) (hb _ _ _ _ e2) hm) fun σ H Q ⟨w, g, l, q'⟩ => ?_
            refine bi_run hB σ H _ ⟨w, g, l, fun v w' H' l' g' v' => ?_⟩
            exact ⟨k, vr_bl v', q' w' H' l' g'⟩
          rcases hop with ⟨rfl, rfl⟩ | ⟨rfl, rfl⟩
          · obtain ⟨q, hq, hB⟩ := cIn_ok Z.op_inZ (Z.op_inX (by omega)) hu ek nd
            exact go hq hB
          · obtain ⟨q, hq, hB⟩ := cIn_ok Z.op_ninZ (Z.op_ninX (by omega)) hu ek nd
            exact go hq hB
      · cases h
    · cases h
  · cases h
/-- d[k], keys ints and texts -/
def eIxK (ma mb : ME) : ME := eBin (fun s a b => match a, b with
  | .r j, .d x => match s[j]? with
    | some (.dk kvs) => match keyOf x with
      | some k => match kGet kvs k with
        | some d => some (d, s)
        | none => none
      | none => none
    | _ => none
  | _, _ => none) ma mb
theorem n_ixK (hu : X.A.units + 64 < cLine) (ha : NE X a ma) (hb : NE X b mb) (hs : NoSl b := by intro _ _; rfl) : NE X (.Subscript a b pos) (eIxK ma mb) := fun e s z s' h => by
  obtain ⟨x, s1, y, s2, e1, e2, e3⟩ := bin_cases h
  split at e3
  · rename_i j x
    split at e3
    · rename_i kvs e4
      split at e3
      · rename_i kk hk
        split at e3
        · rename_i d e5
          cases e3
          refine PE.imp (pe_dget (by omega) (ha _ _ _ _ e1) (hb _ _ _ _ e2) hs) fun σ H Q ⟨w, g, l, q⟩ => ⟨w, g, l, fun v w1 H1 l1 g1 v1 => ⟨w1, g1, l.up l1, fun u w2 H2 l2 g2 v2 => ?_⟩⟩
          obtain ⟨p1, xs, rfl, h2, h3, _⟩ := chg_dk g2 (v1.up l2) e4
          obtain ⟨vv, h4, h5⟩ := (h3.val (k := kk)).2 _ e5
          exact ⟨p1, vv, rfl, .inl ⟨xs, kk, .inl h2, keyOf_ok hk v2, h4.symm⟩, q _ w2 H2 (l1.trans l2) g2 h5⟩
        · cases e3
      · cases e3
    · cases e3
  · cases e3
noncomputable def eIt (ma mb : ME) : ME := fun e s => match eItem ma mb e s with
  | some r => some r
  | none => eIxK ma mb e s
theorem n_it (hu : X.A.units + 64 < cLine) (ha : NE X a ma) (hb : NE X b mb) (hs : PlainIx b := by intro _ _; rfl) (hs2 : NoSl b := by intro _ _; rfl) : NE X (.Subscript a b pos) (eIt ma mb) := fun e s z s' h => by
  unfold eIt at h
  split at h
  · rename_i r e1
    cases h
    exact n_item hu ha hb hs _ _ _ _ e1
  · exact n_ixK hu ha hb hs2 _ _ _ _ h
def sPutK (ma mi mv : ME) : MS := fun e s => match mv e s with
  | some (d, s1) => match ma e s1 with
    | some (.r j, s2) => match mi e s2 with
      | some (.d x, s3) => match s3[j]? with
        | some (.dk kvs) => match keyOf x with
          | some k => if kvs.length < lim then some (.nx, e, s3.set j (.dk (kPut kvs k d))) else none
          | none => none
        | _ => none
      | _ => none
    | _ => none
  | none => none
theorem ns_putK {tpos : Pos} {mi mv : ME} (hu : X.A.units + 64 < cLine) (hv : NE X ex mv) (ha : NE X a ma) (hi : NE X b mi) (hs : swapsWith ex (some (.Subscript a b tpos)) pos.line X.env = pure false := by rfl) : NS X (.Assign [.Subscript a b tpos] ex pos) (sPutK ma mi mv) := fun e s fl e' s' bb hm hb => by
  unfold sPutK at hm
  split at hm
  · rename_i d s1 e1
    split at hm
    · rename_i j s2 e2
      split at hm
      · rename_i x s3 e3
        split at hm
        · rename_i kvs e4
          split at hm
          · rename_i kk hk
            split at hm
            · rename_i hl
              cases hm
              refine Z.PS.imp (ps_dput (by omega) (ha _ _ _ _ e2) (hi _ _ _ _ e3) (hv _ _ _ _ e1) hs) fun Dn σ H ⟨w, g, l, k⟩ => ⟨w, g, l, fun v w1 H1 l1 g1 v1 => ⟨w1, g1, l.up l1, fun u w2 H2 l2 g2 v2 => ⟨w2, g2, (l.up l1).up l2, fun z w3 H3 l3 g3 v3 => ?_⟩⟩⟩
              obtain ⟨p1, xs, rfl, h2, h3, h4⟩ := chg_dk g3 (v2.up l3) e4
              refine ⟨p1, _, rfl, .inl ⟨xs, kk, h2, keyOf_ok hk v3, by rw [h3.len]; exact Nat.lt_trans hl lim_lt, rfl⟩, ?_⟩
              exact k w3 σ _ (((l1.trans l2).trans l3).cut bb) (h4 _ _ (h3.put ((v1.up l2).up l3))) (((l.up l1).up l2).up l3)
            · cases hm
          · cases hm
        · cases hm
      · cases hm
    · cases hm
  · cases hm
noncomputable def sPu (ma mi mv : ME) : MS := fun e s => match sPutU ma mi mv e s with
  | some r => some r
  | none => sPutK ma mi mv e s
theorem ns_pu {tpos : Pos} {mi mv : ME} (hu : X.A.units + 64 < cLine) (hv : NE X ex mv) (ha : NE X a ma) (hi : NE X b mi)
    (hsub : ∀ v, assign (.Subscript a b tpos) X.env v = (do
      let ov ← holding [v] (eval a X.env)
      let iv ← holding [v, ov] (eval b X.env)
      standAt tpos
      holding [v, ov, iv] (setItem ov iv v)
      release [v, ov, iv] []) := by intro _; rfl)
    (hs : swapsWithSole [.Subscript a b tpos] ex pos.line X.env = pure false := by rfl) (hw : swappedStores [.Subscript a b tpos] ex X.env = pure none := by rfl) (h1 : (assignEach [.Subscript a b tpos] X.env).map (·.2) = [assign (.Subscript a b tpos) X.env] := by rfl)
    (hs2 : swapsWith ex (some (.Subscript a b tpos)) pos.line X.env = pure false := by rfl) :
    NS X (.Assign [.Subscript a b tpos] ex pos) (sPu ma mi mv) := fun e s fl e' s' bb hm hb => by
  unfold sPu at hm
  split at hm
  · rename_i r e1
    cases hm
    exact ns_putU hu hv ha hi hsub hs hw h1 _ _ _ _ _ _ e1 hb
  · exact ns_putK hu hv ha hi hs2 _ _ _ _ _ _ hm hb

section
variable {scope : Scope} {own : List (Str × Nat)} {vs : List Nat} {mi : MI} {g : MG} {ek el : ME}
end
end
end N

namespace N
open PySem L2 PyProof.Rows
open Z (Ext dpUp dpsUp dpsLen dpsGet DxO KyD DEn Cl cut offv bl Dfn)
section
variable {X : Cx} {ex a b c tg iter tg1 iter1 elt e : Expr} {es ifs ifs1 elts : List Expr} {st : Stmt} {rest body orelse : List Stmt} {m ma mb mc : ME} {ms : MA} {mt mu : MT} {pos p q p2 tpos : Pos} {M M1 M2 : MS}

section
variable {scope : Scope} {own : List (Str × Nat)} {ow : Bool} {vs vs1 : List Nat} {mi mi1 : MI} {g g1 : MG} {mt1 : MT} {el : ME}
end
end
end N

namespace N
open PySem L2 PyProof.Rows
open Z (Ext dpUp dpsUp dpsLen dpsGet DxO KyD DEn Cl cut offv bl Dfn)

section
variable {X : Cx} {pins : List (Addr × Obj)} {σ : L2.St} {H : Hp} {s : Shared}
end

theorem DR.keys {B : Ba} {w : W} : ∀ {xs : List DEn} {kvs : List (PyData × D)}, DR B w xs kvs → xs.map (·.1) = kvs.map (·.1)
  | [], [], _ => rfl
  | e :: xs, kv :: kvs, ⟨h1, h2⟩ => by rw [List.map_cons, List.map_cons, h1.1, DR.keys h2]
  | [], _ :: _, h => h.elim
  | _ :: _, [], h => h.elim
section
variable {X : Cx}
end
end N

namespace N
open PySem L2 PyProof.Rows
open Z (Ext dpUp dpsUp dpsLen dpsGet DxO KyD DEn Cl cut offv bl Dfn)

section
variable {X : Cx} {pins : List (Addr × Obj)} {σ : L2.St} {H : Hp} {s : Shared}
end
end N

namespace N
open PySem L2 PyProof.Rows

theorem safe_self (s : Sto) : Safe s s := ⟨Nat.le_refl _, fun j c _ h => .inl h⟩
theorem safe_app (s g : Sto) : Safe s (s ++ g) := ⟨by simp, fun j c hj h => .inl (by rwa [List.getElem?_append_left hj] at h)⟩
@[simp] theorem trim_self (s : Sto) : trim s s = s := by unfold trim; rw [if_pos (safe_self s), List.take_length]
@[simp] theorem trim_app (s g : Sto) : trim s (s ++ g) = s := by unfold trim; rw [if_pos (safe_app s g), List.take_left]
theorem safe_set {s g : Sto} {j : Nat} {c : Cell} (h : c.below s.length) : Safe s ((s ++ g).set j c) := by
  refine ⟨by simp, fun k c' hk hc => ?_⟩
  by_cases e : k = j
  · subst e
    rw [List.getElem?_set_self (by simp; omega)] at hc
    cases hc
    exact .inr h
  · rw [List.getElem?_set_ne (Ne.symm e), List.getElem?_append_left hk] at hc
    exact .inl hc
theorem trim_set {s g : Sto} {j : Nat} {c : Cell} (h : c.below s.length) : trim s ((s ++ g).set j c) = (s.set j c) := by
  unfold trim
  rw [if_pos (safe_set h), List.take_set, List.take_left]
@[simp] theorem trimE_self (s : Sto) (e : Lo) : trimE s e s = s := by unfold trimE; split <;> simp
@[simp] theorem ret_d (own : Bool) (s : Sto) (x : PyData) (s' : Sto) : ret own s (.d x) s' = some (.d x, trim s s') := rfl
theorem ck_none (s : Sto) : chkOk none s := trivial
theorem lcL_pure {k : Nat} {ck : Option (Nat × List D)} {g : MG} {mt : MT} {el : ME} {e0 : Lo} {s : Sto} {α : Type} {enc : α → D} (f : α → D) (p : α → Bool) (hk : k = s.length) (hck : ∀ acc, chkOk ck (s ++ [.lst acc])) : ∀ (l : List α) (acc : List D), (∀ x ∈ l, ∀ acc, ∃ e1, g (enc x) e0 = some e1 ∧ mt e1 (s ++ [.lst acc]) = some (p x, s ++ [.lst acc]) ∧ (p x = true → el e1 (s ++ [.lst acc]) = some (f x, s ++ [.lst acc]))) → acc.length + l.length ≤ lim →
    lcL k ck g mt el e0 (l.map enc) (s ++ [.lst acc]) = some (s ++ [.lst (acc ++ (l.filter p).map f)])
  | [], acc, _, _ => by
    rw [List.map_nil]
    unfold lcL
    rw [if_pos (hck acc)]
    simp
  | x :: l, acc, h, hl => by
    obtain ⟨e1, h1, h2, h3⟩ := h x List.mem_cons_self acc
    rw [List.map_cons]
    unfold lcL
    rw [if_pos (hck acc)]
    simp only [h1, h2]
    rw [List.length_cons] at hl
    cases hp : p x with
    | false =>
      simp only []
      rw [lcL_pure f p hk hck l acc (fun y hy => h y (List.mem_cons_of_mem _ hy)) (by omega), List.filter_cons_of_neg (by simp [hp])]
    | true =>
      simp only [h3 hp]
      subst hk
      rw [List.getElem?_append_right (Nat.le_refl _), Nat.sub_self]
      simp only [List.getElem?_cons_zero]
      rw [if_pos (by omega), List.set_append_right _ _ (Nat.le_refl _), Nat.sub_self]
      simp only [List.set_cons_zero]
      rw [lcL_pure f p rfl hck l _ (fun y hy => h y (List.mem_cons_of_mem _ hy)) (by rw [List.length_append]; simp; omega), List.filter_cons_of_pos hp]
      simp
theorem lcFin_d (s : Sto) (xs : List PyData) : lcFin false s (s ++ [.lst (xs.map .d)]) = some (.d (.list xs), s) := by
  unfold lcFin
  rw [List.getElem?_append_right (Nat.le_refl _), Nat.sub_self]
  simp only [List.getElem?_cons_zero, data_map, Bool.false_eq_true, if_false]
  congr 2
  rw [List.set_append_right _ _ (Nat.le_refl _)]
  exact trim_app _ _
theorem eLc_d {vs : List Nat} {mi : MI} {g : MG} {mt : MT} {el : ME} {e : Lo} {s s1 : Sto} {α : Type} {enc : α → D} {l : List α} (f : α → PyData) (p : α → Bool) (hi : mi e s = some (l.map enc, none, s1)) (h : ∀ x ∈ l, ∀ acc, ∃ e1, g (enc x) (wipeN e vs) = some e1 ∧ mt e1 (s1 ++ [.lst acc]) = some (p x, s1 ++ [.lst acc]) ∧ (p x = true → el e1 (s1 ++ [.lst acc]) = some (.d (f x), s1 ++ [.lst acc]))) (hl : l.length ≤ lim) :
    eLc false vs mi g mt el e s = some (.d (.list ((l.filter p).map f)), s1) := by
  unfold eLc
  simp only [hi]
  rw [lcL_pure (fun x => .d (f x)) p rfl (fun _ => ck_none _) l [] h (by simpa using hl)]
  simp only [List.nil_append]
  have := lcFin_d s1 ((l.filter p).map f)
  rw [List.map_map] at this
  exact this
end N

namespace N
open PySem L2 PyProof.Rows
open Z (Ext dpUp dpsUp dpsLen dpsGet DxO KyD DEn)
section
variable {X : Cx} {a b : Expr} {ms : MA} {pos : Pos}
end
end N



namespace N
open PySem L2 PyProof.Rows

def R {α : Type} (o : Option (α × Sto)) (Q : α → Sto → Prop) : Prop := ∃ x s, o = some (x, s) ∧ Q x s
def Rc {α : Type} (o : Option α) (Q : α → Prop) : Prop := ∃ x, o = some x ∧ Q x
def Rs (o : Option (Fl × Lo × Sto)) (Q : Fl → Lo → Sto → Prop) : Prop := ∃ fl e s, o = some (fl, e, s) ∧ Q fl e s
def Ri (o : Option (List D × Option (Nat × List D) × Sto)) (Q : List D → Option (Nat × List D) → Sto → Prop) : Prop := ∃ l ck s, o = some (l, ck, s) ∧ Q l ck s
section
variable {α : Type}
@[simp] theorem R_some {x : α} {s : Sto} {Q : α → Sto → Prop} : R (some (x, s)) Q ↔ Q x s := ⟨fun ⟨_, _, h, q⟩ => by cases h; exact q, fun q => ⟨_, _, rfl, q⟩⟩
@[simp] theorem R_none {Q : α → Sto → Prop} : R none Q ↔ False := ⟨fun ⟨_, _, h, _⟩ => (by cases h), False.elim⟩
@[simp] theorem Rc_some {x : α} {Q : α → Prop} : Rc (some x) Q ↔ Q x := ⟨fun ⟨_, h, q⟩ => by cases h; exact q, fun q => ⟨_, rfl, q⟩⟩
@[simp] theorem Rc_none {Q : α → Prop} : Rc none Q ↔ False := ⟨fun ⟨_, h, _⟩ => (by cases h), False.elim⟩
@[simp] theorem Rs_some {fl : Fl} {e : Lo} {s : Sto} {Q : Fl → Lo → Sto → Prop} : Rs (some (fl, e, s)) Q ↔ Q fl e s := ⟨fun ⟨_, _, _, h, q⟩ => by cases h; exact q, fun q => ⟨_, _, _, rfl, q⟩⟩
@[simp] theorem Rs_none {Q : Fl → Lo → Sto → Prop} : Rs none Q ↔ False := ⟨fun ⟨_, _, _, h, _⟩ => (by cases h), False.elim⟩
@[simp] theorem Ri_some {l : List D} {ck : Option (Nat × List D)} {s : Sto} {Q : List D → Option (Nat × List D) → Sto → Prop} : Ri (some (l, ck, s)) Q ↔ Q l ck s := ⟨fun ⟨_, _, _, h, q⟩ => by cases h; exact q, fun q => ⟨_, _, _, rfl, q⟩⟩
@[simp] theorem Ri_none {Q : List D → Option (Nat × List D) → Sto → Prop} : Ri none Q ↔ False := ⟨fun ⟨_, _, _, h, _⟩ => (by cases h), False.elim⟩
theorem R.imp {o : Option (α × Sto)} {Q Q' : α → Sto → Prop} (h : R o Q) (k : ∀ x s, Q x s → Q' x s) : R o Q' := by
  obtain ⟨x, s, e, q⟩ := h
  exact ⟨x, s, e, k _ _ q⟩
theorem Rc.imp {o : Option α} {Q Q' : α → Prop} (h : Rc o Q) (k : ∀ x, Q x → Q' x) : Rc o Q' := by
  obtain ⟨x, e, q⟩ := h
  exact ⟨x, e, k _ q⟩
theorem Rs.imp {o : Option (Fl × Lo × Sto)} {Q Q' : Fl → Lo → Sto → Prop} (h : Rs o Q) (k : ∀ fl e s, Q fl e s → Q' fl e s) : Rs o Q' := by
  obtain ⟨x, e, s, h, q⟩ := h
  exact ⟨x, e, s, h, k _ _ _ q⟩
theorem R.of {o : Option (α × Sto)} {x : α} {s : Sto} {Q : α → Sto → Prop} (h : o = some (x, s)) (q : Q x s) : R o Q := ⟨x, s, h, q⟩
theorem R.eq {o : Option (α × Sto)} {x : α} {s : Sto} (h : R o fun y s' => y = x ∧ s' = s) : o = some (x, s) := by
  obtain ⟨_, _, h, rfl, rfl⟩ := h
  exact h
theorem Rs.of {o : Option (Fl × Lo × Sto)} {fl : Fl} {e : Lo} {s : Sto} {Q : Fl → Lo → Sto → Prop} (h : o = some (fl, e, s)) (q : Q fl e s) : Rs o Q := ⟨_, _, _, h, q⟩
end
section
variable {e : Lo} {s : Sto} {Q : D → Sto → Prop} {Qt : Bool → Sto → Prop} {Qa : List D → Sto → Prop} {Qs : Fl → Lo → Sto → Prop} {Qo : Option Int → Sto → Prop} {Qi : List D → Option (Nat × List D) → Sto → Prop}
@[simp] theorem R_C (x : PyData) : R (eC x e s) Q ↔ Q (.d x) s := R_some
@[simp] theorem R_Var (i : Nat) : R (eVar i e s) Q ↔ match e[i]? with
  | some (some d) => Q d s
  | _ => False := by
  unfold eVar
  rcases e[i]? with _ | _ | d <;> simp
@[simp] theorem R_nil : R (aNil e s) Qa ↔ Qa [] s := R_some
@[simp] theorem R_cons (m : ME) (ms : MA) : R (aCons m ms e s) Qa ↔ R (m e s) fun d s1 => R (ms e s1) fun ds s2 => Qa (d :: ds) s2 := by
  unfold aCons
  rcases m e s with _ | ⟨d, s1⟩
  · simp
  · rcases h : ms e s1 with _ | ⟨ds, s2⟩ <;> simp [h]
@[simp] theorem R_bin (f : FB) (ma mb : ME) : R (eBin f ma mb e s) Q ↔ R (ma e s) fun x s1 => R (mb e s1) fun y s2 => R (f s2 x y) Q := by
  unfold eBin
  rcases ma e s with _ | ⟨d, s1⟩
  · simp
  · rcases h : mb e s1 with _ | ⟨ds, s2⟩ <;> simp [h]
@[simp] theorem R_cmp (f : FC) (ma mb : ME) : R (eCmp f ma mb e s) Q ↔ R (ma e s) fun x s1 => R (mb e s1) fun y s2 => Rc (f s2 x y) fun k => Q (.d (.bool k)) s2 := by
  unfold eCmp eBin
  rcases ma e s with _ | ⟨d, s1⟩
  · simp
  · rcases h : mb e s1 with _ | ⟨ds, s2⟩
    · simp [h]
    · rcases h2 : f s2 d ds with _ | k <;> simp [h, h2]
@[simp] theorem R_tcmp (f : FC) (ma mb : ME) : R (tCmp f ma mb e s) Qt ↔ R (ma e s) fun x s1 => R (mb e s1) fun y s2 => Rc (f s2 x y) fun k => Qt k s2 := by
  unfold tCmp
  rcases ma e s with _ | ⟨d, s1⟩
  · simp
  · rcases h : mb e s1 with _ | ⟨ds, s2⟩
    · simp [h]
    · rcases h2 : f s2 d ds with _ | k <;> simp [h, h2]
@[simp] theorem R_call (f : FA) (ms : MA) : R (eCall f ms e s) Q ↔ R (ms e s) fun ds s1 => R (f s1 ds) Q := by
  unfold eCall
  rcases ms e s with _ | ⟨d, s1⟩ <;> simp
@[simp] theorem R_ite (mt : MT) (ma mb : ME) : R (eIte mt ma mb e s) Q ↔ R (mt e s) fun k s1 => (k = true → R (ma e s1) Q) ∧ (k = false → R (mb e s1) Q) := by
  unfold eIte
  rcases mt e s with _ | ⟨_ | _, s1⟩ <;> simp
@[simp] theorem R_tVal (m : ME) : R (tVal m e s) Qt ↔ R (m e s) fun d s1 => Rc (truD s1 d) fun k => Qt k s1 := by
  unfold tVal
  rcases m e s with _ | ⟨d, s1⟩
  · simp
  · rcases h : truD s1 d with _ | k <;> simp [h]
@[simp] theorem R_tTrue : R (tTrue e s) Qt ↔ Qt true s := R_some
@[simp] theorem R_tNot (mt : MT) : R (tNot mt e s) Qt ↔ R (mt e s) fun k s1 => Qt (!k) s1 := by
  unfold tNot
  rcases mt e s with _ | ⟨k, s1⟩ <;> simp
@[simp] theorem R_tAnd (mt mu : MT) : R (tAnd mt mu e s) Qt ↔ R (mt e s) fun k s1 => (k = true → R (mu e s1) Qt) ∧ (k = false → Qt false s1) := by
  unfold tAnd
  rcases mt e s with _ | ⟨_ | _, s1⟩ <;> simp
@[simp] theorem R_tOr (mt mu : MT) : R (tOr mt mu e s) Qt ↔ R (mt e s) fun k s1 => (k = false → R (mu e s1) Qt) ∧ (k = true → Qt true s1) := by
  unfold tOr
  rcases mt e s with _ | ⟨_ | _, s1⟩ <;> simp
@[simp] theorem R_eAnd (ma mb : ME) : R (eAnd ma mb e s) Q ↔ R (ma e s) fun d s1 => Rc (truD s1 d) fun k => (k = true → R (mb e s1) Q) ∧ (k = false → Q d s1) := by
  unfold eAnd
  rcases ma e s with _ | ⟨d, s1⟩
  · simp
  · rcases h : truD s1 d with _ | _ | _ <;> simp [h]
@[simp] theorem R_eOr (ma mb : ME) : R (eOr ma mb e s) Q ↔ R (ma e s) fun d s1 => Rc (truD s1 d) fun k => (k = false → R (mb e s1) Q) ∧ (k = true → Q d s1) := by
  unfold eOr
  rcases ma e s with _ | ⟨d, s1⟩
  · simp
  · rcases h : truD s1 d with _ | _ | _ <;> simp [h]
@[simp] theorem R_eNot (m : ME) : R (eNot m e s) Q ↔ R (m e s) fun d s1 => Rc (truD s1 d) fun k => Q (.d (.bool (!k))) s1 := by
  unfold eNot
  rcases m e s with _ | ⟨d, s1⟩
  · simp
  · rcases h : truD s1 d with _ | k <;> simp [h]
@[simp] theorem R_neg (m : ME) : R (eNeg m e s) Q ↔ R (m e s) fun d s1 => match d with
  | .d (.int i) => Q (.d (.int (-i))) s1
  | _ => False := by
  unfold eNeg
  rcases m e s with _ | ⟨d, s1⟩
  · simp
  · rcases d with x | j
    · cases x <;> simp
    · simp
@[simp] theorem R_tup (ms : MA) : R (eTup ms e s) Q ↔ R (ms e s) fun ds s1 => Rc (data ds) fun xs => xs.length ≤ lim ∧ Q (.d (.tuple xs)) s1 := by
  unfold eTup
  rcases ms e s with _ | ⟨ds, s1⟩
  · simp
  · rcases h : data ds with _ | xs
    · simp [h]
    · by_cases h2 : xs.length ≤ lim <;> simp [h, h2]
@[simp] theorem R_lst (own : Bool) (ms : MA) : R (eLst own ms e s) Q ↔ R (ms e s) fun ds s1 => ds.length ≤ lim ∧ R (mkL own s1 ds) Q := by
  unfold eLst
  rcases ms e s with _ | ⟨ds, s1⟩
  · simp
  · by_cases h : ds.length ≤ lim <;> simp [h]
@[simp] theorem R_mkT (ds : List D) : R (mkL true s ds) Q ↔ Q (.r s.length) (s ++ [.lst ds]) := R_some
@[simp] theorem R_mkF (ds : List D) : R (mkL false s ds) Q ↔ Rc (data ds) fun xs => Q (.d (.list xs)) s := by
  unfold mkL
  rcases h : data ds with _ | xs <;> simp [h]
@[simp] theorem R_dic : R (eDic e s) Q ↔ Q (.r s.length) (s ++ [.dic []]) := R_some
@[simp] theorem R_dicK : R (eDicK e s) Q ↔ Q (.r s.length) (s ++ [.dk []]) := R_some
@[simp] theorem R_isi (t : TyT) (m : ME) : R (eIsi t m e s) Q ↔ R (m e s) fun d s1 => Rc (pd s1 d) fun x => Q (.d (.bool (t.of x))) s1 := by
  unfold eIsi
  rcases m e s with _ | ⟨d, s1⟩
  · simp
  · rcases h : pd s1 d with _ | x <;> simp [h]
@[simp] theorem R_oNone : R (oNone e s) Qo ↔ Qo none s := R_some
@[simp] theorem R_oSome (m : ME) : R (oSome m e s) Qo ↔ R (m e s) fun d s1 => match d with
  | .d (.int i) => Qo (some i) s1
  | _ => False := by
  unfold oSome
  rcases m e s with _ | ⟨d, s1⟩
  · simp
  · rcases d with x | j
    · cases x <;> simp [eC]
    · simp
theorem cutD_map {α β : Type} (f : α → β) (xs : List α) (lo hi : Option Int) : cutD (xs.map f) lo hi = (cutD xs lo hi).map f := by
  unfold cutD
  rw [List.length_map, List.map_take, List.map_drop]
theorem v_list {own : Bool} (xs : List PyData) : bList own s [.d (.list xs)] = mkL own s (xs.map .d) := rfl
@[simp] theorem R_sl {own : Bool} (ma : ME) (ml mu : MO) : R (eSl own ma ml mu e s) Q ↔ R (ma e s) fun a s1 => R (ml e s1) fun l s2 => R (mu e s2) fun u s3 => match a with
  | .d (.tuple xs) => Q (.d (.tuple (cutD xs l u))) s3
  | a => Rc (asL s3 a) fun ds => R (mkL own s3 (cutD ds l u)) Q := by
  unfold eSl
  rcases ma e s with _ | ⟨a, s1⟩
  · simp
  · rcases h1 : ml e s1 with _ | ⟨l, s2⟩
    · simp [h1]
    · rcases h2 : mu e s2 with _ | ⟨u, s3⟩
      · simp [h1, h2]
      · rcases a with x | j
        · cases x <;> simp [h1, h2, asL]
        · simp only [h1, h2, R_some]
          rcases h3 : asL s3 (.r j) with _ | ds <;> simp [h3]
/-- an item -/
def kIx (s : Sto) (a : D) (x : PyData) : Option D := match a with
  | .r j => match s[j]? with
    | some (.dk kvs) => match keyOf x with
      | some k => kGet kvs k
      | none => none
    | _ => none
  | _ => none
noncomputable def itF (s : Sto) (a b : D) : Option D := match gIxU s a b with
  | some d => some d
  | none => match b with
    | .d x => kIx s a x
    | _ => none
theorem R_it (ma mb : ME) : R (eIt ma mb e s) Q ↔ R (ma e s) fun a s1 => R (mb e s1) fun b s2 => Rc (itF s2 a b) fun d => Q d s2 := by
  unfold eIt eItem eIxK eBin
  rcases ma e s with _ | ⟨a, s1⟩
  · simp
  · rcases h : mb e s1 with _ | ⟨b, s2⟩
    · simp [h]
    · simp only [h, R_some, itF]
      rcases h2 : gIxU s2 a b with _ | d
      · simp only [R_some]
        rcases b with x | k
        · rcases a with y | j
          · simp [kIx]
          · simp only [kIx]
            rcases s2[j]? with _ | c
            · simp
            · rcases c with ds | kvs | kvs | kvs | ⟨rl, rh⟩ | td | ⟨iC, ifs⟩ | _
              · simp
              · simp
              · rcases keyOf x with _ | k
                · simp
                · rcases h3 : kGet kvs k with _ | d <;> simp [h3]
              · simp
              · simp
              · simp
              · simp
              · simp
        · rcases a with y | j <;> simp
      · simp
theorem itF_l {j : Nat} {ds : List D} {i : Int} {d : D} (h : s[j]? = some (.lst ds)) (h2 : atI ds i = some d) : itF s (.r j) (.d (.int i)) = some d := by
  unfold itF gIxU gIx asSeq asL
  simp only [h, h2]
theorem itF_t {xs : List PyData} {i : Int} {x : PyData} (h2 : atI xs i = some x) : itF s (.d (.tuple xs)) (.d (.int i)) = some (.d x) := by
  have : atI (xs.map D.d) i = some (.d x) := by
    unfold atI at h2 ⊢
    rw [List.length_map]
    rcases h : ixN xs.length i with _ | k
    · rw [h] at h2; cases h2
    · rw [h] at h2
      simp only [Option.bind_some] at h2 ⊢
      rw [List.getElem?_map, h2]
      rfl
  unfold itF gIxU gIx asSeq
  simp only [this]
theorem itF_tl {xs : List PyData} {i : Int} {x : PyData} (h2 : atI xs i = some x) : itF s (.d (.list xs)) (.d (.int i)) = some (.d x) := by
  have : atI (xs.map D.d) i = some (.d x) := by
    unfold atI at h2 ⊢
    rw [List.length_map]
    rcases h : ixN xs.length i with _ | k
    · rw [h] at h2; cases h2
    · rw [h] at h2
      simp only [Option.bind_some] at h2 ⊢
      rw [List.getElem?_map, h2]
      rfl
  unfold itF gIxU gIx asSeq asL
  simp only [this]
theorem itF_k {j : Nat} {kvs : List (PyData × D)} {xs : List PyData} {d : D} (h : s[j]? = some (.dic kvs)) (hk : isKey (.tuple xs) = true) (h2 : dGet kvs (.tuple xs) = some d) : itF s (.r j) (.d (.tuple xs)) = some d := by
  unfold itF gIxU
  simp only [h, hk, if_true, h2]
theorem atI_nat {α : Type} {xs : List α} {i : Nat} {x : α} (h : xs[i]? = some x) : atI xs (i : Int) = some x := by
  have hl : i < xs.length := by
    rcases Nat.lt_or_ge i xs.length with hi | hi
    · exact hi
    · rw [List.getElem?_eq_none hi] at h; cases h
  unfold atI ixN
  rw [if_pos (by omega), if_pos (by omega)]
  simpa using h
@[simp] theorem Rs_nil : Rs (sNil e s) Qs ↔ Qs .nx e s := Rs_some
@[simp] theorem Rs_pass : Rs (sPass e s) Qs ↔ Qs .nx e s := Rs_some
@[simp] theorem Rs_ct : Rs (sCt e s) Qs ↔ Qs .ct e s := Rs_some
@[simp] theorem Rs_bk : Rs (sBk e s) Qs ↔ Qs .bk e s := Rs_some
/-- what holds behind a statement -/
def thn (b : MS) (Q : Fl → Lo → Sto → Prop) : Fl → Lo → Sto → Prop := fun fl e s => match fl with
  | .nx => Rs (b e s) Q
  | fl => Q fl e s
@[simp] theorem thn_nx (b : MS) : thn b Qs .nx e s ↔ Rs (b e s) Qs := Iff.rfl
@[simp] theorem thn_rt (b : MS) (d : D) : thn b Qs (.rt d) e s ↔ Qs (.rt d) e s := Iff.rfl
@[simp] theorem thn_bk (b : MS) : thn b Qs .bk e s ↔ Qs .bk e s := Iff.rfl
@[simp] theorem thn_ct (b : MS) : thn b Qs .ct e s ↔ Qs .ct e s := Iff.rfl
@[simp] theorem Rs_seq (a b : MS) : Rs (sSeq a b e s) Qs ↔ Rs (a e s) (thn b Qs) := by
  unfold sSeq
  rcases a e s with _ | ⟨fl, e1, s1⟩
  · simp
  · cases fl <;> simp
@[simp] theorem Rs_set (i : Nat) (m : ME) : Rs (sSet i m e s) Qs ↔ R (m e s) fun d s1 => Qs .nx (e.set i (some d)) s1 := by
  unfold sSet
  rcases m e s with _ | ⟨d, s1⟩ <;> simp
@[simp] theorem Rs_ret (m : ME) : Rs (sRet m e s) Qs ↔ R (m e s) fun d s1 => Qs (.rt d) e s1 := by
  unfold sRet
  rcases m e s with _ | ⟨d, s1⟩ <;> simp
@[simp] theorem Rs_expr (m : ME) : Rs (sExpr m e s) Qs ↔ R (m e s) fun d s1 => Qs .nx e s1 := by
  unfold sExpr
  rcases m e s with _ | ⟨d, s1⟩ <;> simp
@[simp] theorem Rs_if (mt : MT) (M1 M2 : MS) : Rs (sIf mt M1 M2 e s) Qs ↔ R (mt e s) fun k s1 => (k = true → Rs (M1 e s1) Qs) ∧ (k = false → Rs (M2 e s1) Qs) := by
  unfold sIf
  rcases mt e s with _ | ⟨_ | _, s1⟩ <;> simp
@[simp] theorem Rs_aug (i : Nat) (f : FB) (m : ME) : Rs (sAug i f m e s) Qs ↔ match e[i]? with
  | some (some u) => R (m e s) fun d s1 => R (f s1 u d) fun z s2 => Qs .nx (e.set i (some z)) s2
  | _ => False := by
  unfold sAug
  rcases e[i]? with _ | _ | u
  · simp
  · simp
  · rcases m e s with _ | ⟨d, s1⟩
    · simp
    · rcases h : f s1 u d with _ | ⟨z, s2⟩ <;> simp [h]
@[simp] theorem Rs_asg (g : MG) (m : ME) : Rs (sAsg g m e s) Qs ↔ R (m e s) fun d s1 => Rc (g d e) fun e1 => Qs .nx e1 s1 := by
  unfold sAsg
  rcases m e s with _ | ⟨d, s1⟩
  · simp
  · rcases h : g d e with _ | e1 <;> simp [h]
@[simp] theorem Rs_par (is : List Nat) (ms : MA) : Rs (sPar is ms e s) Qs ↔ R (ms e s) fun ds s1 => ds.length = is.length ∧ Qs .nx ((is.zip ds).foldl (fun e z => e.set z.1 (some z.2)) e) s1 := by
  unfold sPar
  rcases ms e s with _ | ⟨ds, s1⟩
  · simp
  · by_cases h : ds.length = is.length <;> simp [h]
@[simp] theorem g_name (k : Nat) (d : D) : gName k d e = some (e.set k (some d)) := rfl
@[simp] theorem g_tup (gs : MGs) (xs : List PyData) : gTup gs (.d (.tuple xs)) e = gs xs e := rfl
@[simp] theorem gs_nil : gsNil [] e = some e := rfl
@[simp] theorem gs_cons (g : MG) (gs : MGs) (x : PyData) (xs : List PyData) : gsCons g gs (x :: xs) e = match g (.d x) e with
  | some e1 => gs xs e1
  | none => none := rfl
@[simp] theorem gs_len (n : Nat) (gs : MGs) (xs : List PyData) : gsLenOk n gs xs e = if xs.length = n then gs xs e else none := rfl
/-- an item put -/
noncomputable def putF (s : Sto) (o i d : D) : Option Sto := match o with
  | .r j => match s[j]? with
    | some (.lst ds) => match i with
      | .d (.int i) => match ixN ds.length i with
        | some k => some (s.set j (.lst (ds.set k d)))
        | none => none
      | _ => none
    | some (.dic kvs) => match i with
      | .d x => if isKey x ∧ kvs.length < lim then some (s.set j (.dic (dPut kvs x d))) else none
      | _ => none
    | some (.dk kvs) => match i with
      | .d x => match keyOf x with
        | some k => if kvs.length < lim then some (s.set j (.dk (kPut kvs k d))) else none
        | none => none
      | _ => none
    | _ => none
  | _ => none
theorem Rs_pu {ma mi mv : ME} : Rs (sPu ma mi mv e s) Qs ↔ R (mv e s) fun d s1 => R (ma e s1) fun o s2 => R (mi e s2) fun i s3 => Rc (putF s3 o i d) fun s4 => Qs .nx e s4 := by
  unfold sPu sPutU sPut sPutD sPutK putL putF
  rcases h1 : mv e s with _ | ⟨d, s1⟩
  · simp
  · rcases h2 : ma e s1 with _ | ⟨o, s2⟩
    · simp [h2]
    · rcases h3 : mi e s2 with _ | ⟨i, s3⟩
      · rcases o with x | j <;> simp [h2, h3]
      · rcases o with x | j
        · rcases i with x | j
          · cases x <;> simp [h2, h3]
          · simp [h2, h3]
        · rcases h4 : s3[j]? with _ | c
          · rcases i with x | j
            · cases x <;> simp [h2, h3, h4]
            · simp [h2, h3, h4]
          · rcases i with x | j
            · rcases c with ds | kvs | kvs | kvs | ⟨rl, rh⟩ | td | ⟨iC, ifs⟩ | _
              · cases x <;> simp [h2, h3, h4]
                rename_i i
                rcases h5 : ixN ds.length i with _ | k <;> simp [h5]
              · by_cases hk : isKey x ∧ kvs.length < lim
                · cases x <;> simp [h2, h3, h4, hk]
                · cases x <;> simp [h2, h3, h4, hk]
              · have hk : isKey x = true → keyOf x = none ∨ True := fun _ => .inr trivial
                rcases h5 : keyOf x with _ | k
                · cases x <;> simp [h2, h3, h4, h5]
                · by_cases hl : kvs.length < lim <;> cases x <;> simp [h2, h3, h4, h5, hl]
              · cases x <;> simp [h2, h3, h4]
              · cases x <;> simp [h2, h3, h4]
              · cases x <;> simp [h2, h3, h4]
              · cases x <;> simp [h2, h3, h4]
              · cases x <;> simp [h2, h3, h4]
            · rcases c with ds | kvs | kvs | kvs | ⟨rl, rh⟩ | td | ⟨iC, ifs⟩ | _ <;> simp [h2, h3, h4]
theorem putF_l {j k : Nat} {ds : List D} {i : Int} {d : D} (h : s[j]? = some (.lst ds)) (h2 : ixN ds.length i = some k) : putF s (.r j) (.d (.int i)) d = some (s.set j (.lst (ds.set k d))) := by
  unfold putF
  simp only [h, h2]
theorem putF_k {j : Nat} {kvs : List (PyData × D)} {xs : List PyData} {d : D} (h : s[j]? = some (.dic kvs)) (hk : isKey (.tuple xs) = true) (hl : kvs.length < lim) : putF s (.r j) (.d (.tuple xs)) d = some (s.set j (.dic (dPut kvs (.tuple xs) d))) := by
  unfold putF
  simp only [h]
  rw [if_pos ⟨hk, hl⟩]
theorem R_fn {np n : Nat} {own : Bool} {M : MS} {ds : List D} : R (fnR np n own M s ds) Q ↔ ds.length = np ∧ Rs (M (ds.map some ++ List.replicate (n - np) none) s) fun fl _ s' => match fl with
  | .rt d => R (ret own s d s') Q
  | .nx => R (ret own s (.d .none) s') Q
  | _ => False := by
  unfold fnR
  by_cases h : ds.length = np
  · rw [if_pos h]
    rcases M (ds.map some ++ List.replicate (n - np) none) s with _ | ⟨fl, e1, s1⟩
    · simp [h]
    · cases fl <;> simp [h]
  · rw [if_neg h]; simp [h]
@[simp] theorem v_sub (i j : Int) : oSub s (.d (.int i)) (.d (.int j)) = some (.d (.int (i - j)), s) := rfl
@[simp] theorem v_add (own : Bool) (i j : Int) : oAdd own s (.d (.int i)) (.d (.int j)) = some (.d (.int (i + j)), s) := rfl
@[simp] theorem v_iadd (i j : Int) : oIadd s (.d (.int i)) (.d (.int j)) = some (.d (.int (i + j)), s) := rfl
@[simp] theorem v_addT (own : Bool) (xs ys : List PyData) : R (oAdd own s (.d (.tuple xs)) (.d (.tuple ys))) Q ↔ xs.length + ys.length ≤ lim ∧ Q (.d (.tuple (xs ++ ys))) s := by
  unfold oAdd
  by_cases h : xs.length + ys.length ≤ lim <;> simp [h]
theorem v_mul {i j : Int} (h : ((-(2 ^ 64) < i ∧ i < 2 ^ 64) ∨ (-(2 ^ 64) < j ∧ j < 2 ^ 64)) ∨ i.natAbs.log2 + j.natAbs.log2 < 1000000) : oMul s (.d (.int i)) (.d (.int j)) = some (.d (.int (i * j)), s) := by
  unfold oMul
  simp only [if_pos h]
theorem v_mulL {i j : Int} (h : -(2 ^ 64) < i ∧ i < 2 ^ 64) : oMul s (.d (.int i)) (.d (.int j)) = some (.d (.int (i * j)), s) := v_mul (.inl (.inl h))
theorem v_mulR {i j : Int} (h : -(2 ^ 64) < j ∧ j < 2 ^ 64) : oMul s (.d (.int i)) (.d (.int j)) = some (.d (.int (i * j)), s) := v_mul (.inl (.inr h))
theorem log2_small {j : Int} (h' : j.natAbs < 2 ^ 256) : j.natAbs.log2 ≤ 256 := by
  by_cases h0 : j.natAbs = 0
  · rw [h0]; decide
  · have := (Nat.log2_lt (n := j.natAbs) (k := 256) h0).mpr h'
    omega
theorem v_mulS {i j : Int} (hi : i.natAbs < 2 ^ 256) (hj : j.natAbs < 2 ^ 256) : oMul s (.d (.int i)) (.d (.int j)) = some (.d (.int (i * j)), s) := by
  refine v_mul (.inr ?_)
  have := log2_small hi
  have := log2_small hj
  omega
theorem v_div {i j : Int} (h : 0 < j) (h' : j < 2 ^ 256) : oDiv s (.d (.int i)) (.d (.int j)) = some (.d (.int (i / j)), s) := by
  have := log2_small (j := j) (by omega)
  unfold oDiv i2
  simp only [if_pos (show 0 < j ∧ j.natAbs.log2 < 9000 from ⟨h, by omega⟩)]
theorem v_mod {i j : Int} (h : 0 < j) : oMod s (.d (.int i)) (.d (.int j)) = some (.d (.int (i % j)), s) := by
  unfold oMod i2
  simp only [if_pos h]
@[simp] theorem v_xor (i j : Int) : oXor s (.d (.int i)) (.d (.int j)) = some (.d (.int (Builtin.bitXor i j)), s) := rfl
@[simp] theorem v_lt (i j : Int) : cLt s (.d (.int i)) (.d (.int j)) = some (decide (i < j)) := rfl
@[simp] theorem v_le (i j : Int) : cLe s (.d (.int i)) (.d (.int j)) = some (decide (i ≤ j)) := rfl
@[simp] theorem v_gt (i j : Int) : cGt s (.d (.int i)) (.d (.int j)) = some (decide (j < i)) := rfl
@[simp] theorem v_ge (i j : Int) : cGe s (.d (.int i)) (.d (.int j)) = some (decide (j ≤ i)) := rfl
@[simp] theorem v_eq (i j : Int) : cEq s (.d (.int i)) (.d (.int j)) = some (decide (i = j)) := rfl
@[simp] theorem v_ne (i j : Int) : cNe s (.d (.int i)) (.d (.int j)) = some (!decide (i = j)) := rfl
@[simp] theorem v_isN (a : D) : cIsN false s a (.d .none) = some (isNone a) := rfl
@[simp] theorem v_isNn (a : D) : cIsN true s a (.d .none) = some (!isNone a) := rfl
@[simp] theorem isNone_n : isNone (.d .none) = true := rfl
@[simp] theorem isNone_r (j : Nat) : isNone (.r j) = false := rfl
@[simp] theorem isNone_i (i : Int) : isNone (.d (.int i)) = false := rfl
@[simp] theorem isNone_t (xs : List PyData) : isNone (.d (.tuple xs)) = false := rfl
@[simp] theorem isNone_l (xs : List PyData) : isNone (.d (.list xs)) = false := rfl
@[simp] theorem isNone_b (b : Bool) : isNone (.d (.bool b)) = false := rfl
@[simp] theorem v_int (i : Int) : bInt s [.d (.int i)] = some (.d (.int i), s) := rfl
@[simp] theorem tru_b (b : Bool) : truD s (.d (.bool b)) = some b := rfl
@[simp] theorem tru_i (i : Int) : truD s (.d (.int i)) = some (i != 0) := rfl
@[simp] theorem tru_t (xs : List PyData) : truD s (.d (.tuple xs)) = some (!xs.isEmpty) := rfl
@[simp] theorem tru_l (xs : List PyData) : truD s (.d (.list xs)) = some (!xs.isEmpty) := rfl
@[simp] theorem tru_n : truD s (.d .none) = some false := rfl
@[simp] theorem pd_d (x : PyData) : pd s (.d x) = some x := rfl
@[simp] theorem data_nil : data [] = some [] := rfl
@[simp] theorem data_cons (x : PyData) (ds : List D) : data (.d x :: ds) = match data ds with
  | some xs => some (x :: xs)
  | none => none := rfl
@[simp] theorem len_t (xs : List PyData) : bLen s [.d (.tuple xs)] = some (.d (.int xs.length), s) := rfl
theorem len_l (xs : List PyData) : bLen s [.d (.list xs)] = some (.d (.int xs.length), s) := by
  unfold bLen f1 lenG asL
  simp
theorem len_r {j : Nat} {ds : List D} (h : s[j]? = some (.lst ds)) : bLen s [.r j] = some (.d (.int ds.length), s) := by
  unfold bLen f1 lenG asL
  simp [h]
@[simp] theorem v_tupT (xs : List PyData) : bTuple s [.d (.tuple xs)] = some (.d (.tuple xs), s) := rfl
end
end N

namespace N
open PySem L2 PyProof.Rows

section
variable {e : Lo} {s : Sto} {Q : D → Sto → Prop} {Qt : Bool → Sto → Prop} {Qa : List D → Sto → Prop} {Qs : Fl → Lo → Sto → Prop} {Qo : Option Int → Sto → Prop} {Qi : List D → Option (Nat × List D) → Sto → Prop}
@[simp] theorem Ri_rng1 (ms : MA) : Ri (iRng1 ms e s) Qi ↔ R (ms e s) fun ds s1 => match ds with
  | [.d (.int j)] => (-(2 ^ 62) ≤ j ∧ j < 2 ^ 62) ∧ Qi (rngD 0 j.toNat) none s1
  | _ => False := by
  unfold iRng1
  rcases ms e s with _ | ⟨ds, s1⟩
  · simp
  · simp only [R_some]
    split
    · rename_i j s2 h
      cases h
      by_cases h : -(2 ^ 62) ≤ j ∧ j < 2 ^ 62
      · simp only [if_pos h, Ri_some]
        exact ⟨fun q => ⟨h, q⟩, fun q => q.2⟩
      · simp only [if_neg h, Ri_none, false_iff]
        exact fun q => h q.1
    · rename_i h
      simp only [Ri_none, false_iff]
      split
      · rename_i j
        exact (h j _ rfl).elim
      · exact id
@[simp] theorem Ri_rng2 (ms : MA) : Ri (iRng2 ms e s) Qi ↔ R (ms e s) fun ds s1 => match ds with
  | [.d (.int i), .d (.int j)] => (-(2 ^ 62) ≤ i ∧ i < 2 ^ 62 ∧ -(2 ^ 62) ≤ j ∧ j < 2 ^ 62) ∧ Qi (rngD i (j - i).toNat) none s1
  | _ => False := by
  unfold iRng2
  rcases ms e s with _ | ⟨ds, s1⟩
  · simp
  · simp only [R_some]
    split
    · rename_i i j s2 h
      cases h
      by_cases h : -(2 ^ 62) ≤ i ∧ i < 2 ^ 62 ∧ -(2 ^ 62) ≤ j ∧ j < 2 ^ 62
      · simp only [if_pos h, Ri_some]
        exact ⟨fun q => ⟨h, q⟩, fun q => q.2⟩
      · simp only [if_neg h, Ri_none, false_iff]
        exact fun q => h q.1
    · rename_i h
      simp only [Ri_none, false_iff]
      split
      · rename_i i j
        exact (h i j _ rfl).elim
      · exact id
@[simp] theorem Ri_seq (m : ME) : Ri (iSeq m e s) Qi ↔ R (m e s) fun d s1 => match d with
  | .d (.tuple xs) => Qi (xs.map .d) none s1
  | .d (.list xs) => Qi (xs.map .d) none s1
  | .r j => match s1[j]? with
    | some (.lst ds) => Qi ds (some (j, ds)) s1
    | _ => False
  | _ => False := by
  unfold iSeq iLst
  rcases m e s with _ | ⟨d, s1⟩
  · simp
  · rcases d with x | j
    · cases x <;> simp
    · simp
      rcases s1[j]? with _ | c
      · simp
      · cases c <;> simp
@[simp] theorem Ri_enumT (m : ME) : Ri (iEnum (aCons m aNil) e s) Qi ↔ R (m e s) fun d s1 => match d with
  | .d (.tuple xs) => Qi (enumD xs) none s1
  | .d (.list xs) => Qi (enumD xs) none s1
  | d => Ri (iEnum (fun _ _ => some ([d], s1)) e s1) Qi := by
  unfold iEnum aCons aNil
  rcases m e s with _ | ⟨d, s1⟩
  · simp
  · rcases d with x | j
    · cases x <;> simp
    · simp
/-- a for -/
def aft (Iv : Lo → Sto → Prop) (Qs : Fl → Lo → Sto → Prop) (dead : List Nat) (s : Sto) : Fl → Lo → Sto → Prop := fun fl e2 s2 => match fl with
  | .nx => Iv (wipeN e2 dead) (trimE s (wipeN e2 dead) s2)
  | .ct => Iv (wipeN e2 dead) (trimE s (wipeN e2 dead) s2)
  | .rt d => Qs (.rt d) e2 s2
  | .bk => Qs .nx e2 s2
@[simp] theorem aft_nx {Iv : Lo → Sto → Prop} {dead : List Nat} {s0 : Sto} : aft Iv Qs dead s0 .nx e s ↔ Iv (wipeN e dead) (trimE s0 (wipeN e dead) s) := Iff.rfl
@[simp] theorem aft_ct {Iv : Lo → Sto → Prop} {dead : List Nat} {s0 : Sto} : aft Iv Qs dead s0 .ct e s ↔ Iv (wipeN e dead) (trimE s0 (wipeN e dead) s) := Iff.rfl
@[simp] theorem aft_rt {Iv : Lo → Sto → Prop} {dead : List Nat} {s0 : Sto} {d : D} : aft Iv Qs dead s0 (.rt d) e s ↔ Qs (.rt d) e s := Iff.rfl
@[simp] theorem aft_bk {Iv : Lo → Sto → Prop} {dead : List Nat} {s0 : Sto} : aft Iv Qs dead s0 .bk e s ↔ Qs .nx e s := Iff.rfl
theorem Rs_forL {α : Type} {enc : α → D} {g : MG} {M : MS} {dead : List Nat} (Iv : Nat → Lo → Sto → Prop) (q : ∀ (e : Lo) (s : Sto) (N : Nat), Iv N e s → True) : ∀ (l : List α) (n : Nat) (e : Lo) (s : Sto), (∀ i x e s, l[i]? = some x → Iv (n + i) e s → Rc (g (enc x) e) fun e1 => Rs (M e1 s) (aft (Iv (n + i + 1)) Qs dead s)) → (∀ e s, Iv (n + l.length) e s → Qs .nx e s) → Iv n e s →
    Rs (forL none (turnF g M dead) (l.map enc) e s) Qs
  | [], n, e, s, h, q, h0 => by
    rw [List.map_nil]
    unfold forL
    rw [if_pos (ck_none _), Rs_some]
    exact q e s h0
  | x :: l, n, e, s, h, q', h0 => by
    rw [List.map_cons]
    unfold forL
    rw [if_pos (ck_none _)]
    obtain ⟨e1, h1, fl, e2, s2, h2, h3⟩ := h 0 x e s rfl h0
    have hh : ∀ i y e s, l[i]? = some y → Iv (n + 1 + i) e s → Rc (g (enc y) e) fun e1 => Rs (M e1 s) (aft (Iv (n + 1 + i + 1)) Qs dead s) := fun i y e s hy hi => by
      have := h (i + 1) y e s (by simpa using hy) (by rw [show n + (i + 1) = n + 1 + i by omega]; exact hi)
      rw [show n + (i + 1) = n + 1 + i by omega] at this
      exact this
    have hq : ∀ e s, Iv (n + 1 + l.length) e s → Qs .nx e s := fun e s hi => q' e s (by rw [show n + (x :: l).length = n + 1 + l.length by simp; omega]; exact hi)
    unfold turnF
    simp only [h1, h2]
    cases fl with
    | nx => exact Rs_forL Iv q l (n + 1) _ _ hh hq h3
    | ct => exact Rs_forL Iv q l (n + 1) _ _ hh hq h3
    | bk => exact Rs_some.mpr h3
    | rt d => exact Rs_some.mpr h3
theorem Rs_for {α : Type} (l : List α) (enc : α → D) {mi : MI} {g : MG} {M : MS} {dead : List Nat} (Iv : Nat → Lo → Sto → Prop) (hi : Ri (mi e s) fun items ck s1 => items = l.map enc ∧ ck = none ∧ Iv 0 e s1)
    (h : ∀ i x e s, l[i]? = some x → Iv i e s → Rc (g (enc x) e) fun e1 => Rs (M e1 s) (aft (Iv (i + 1)) Qs dead s)) (q : ∀ e s, Iv l.length e s → Qs .nx e s) : Rs (sFor mi g M dead e s) Qs := by
  obtain ⟨_, _, s1, h1, rfl, rfl, h2⟩ := hi
  unfold sFor
  simp only [h1]
  refine Rs_forL Iv (fun _ _ _ _ => trivial) l 0 e s1 (fun i x e s hx hi => ?_) (fun e s hi => q e s (by rwa [Nat.zero_add] at hi)) h2
  rw [Nat.zero_add] at hi ⊢
  exact h i x e s hx hi
/-- a while: a measure falls -/
theorem Rs_whileL {mt : MT} {M : MS} {dead : List Nat} (Iv : Nat → Lo → Sto → Prop) (h : ∀ m e s, Iv m e s → R (mt e s) fun b s1 => (b = false → Qs .nx e s1) ∧ (b = true → Rs (M e s1) (aft (fun e s => ∃ m', m' < m ∧ Iv m' e s) Qs dead s))) : ∀ (m n : Nat) (e : Lo) (s : Sto), m < n → Iv m e s → Rs (whileL mt M dead n e s) Qs := by
  intro m
  induction m using Nat.strongRecOn with
  | _ m ih =>
    intro n e s hn hi
    obtain ⟨n, rfl⟩ : ∃ k, n = k + 1 := ⟨n - 1, by omega⟩
    unfold whileL
    obtain ⟨b, s1, h1, h2, h3⟩ := h m e s hi
    cases b with
    | false => simp only [h1]; exact Rs_some.mpr (h2 rfl)
    | true =>
      obtain ⟨fl, e2, s2, h4, h5⟩ := h3 rfl
      simp only [h1, h4]
      cases fl with
      | nx =>
        obtain ⟨m', h6, h7⟩ := h5
        exact ih m' h6 n _ _ (by omega) h7
      | ct =>
        obtain ⟨m', h6, h7⟩ := h5
        exact ih m' h6 n _ _ (by omega) h7
      | bk => exact Rs_some.mpr h5
      | rt d => exact Rs_some.mpr h5
theorem Rs_while {mt : MT} {M : MS} {dead : List Nat} (Iv : Nat → Lo → Sto → Prop) {m : Nat} (hm : m < 2 ^ 64) (h0 : Iv m e s) (h : ∀ m e s, Iv m e s → R (mt e s) fun b s1 => (b = false → Qs .nx e s1) ∧ (b = true → Rs (M e s1) (aft (fun e s => ∃ m', m' < m ∧ Iv m' e s) Qs dead s))) : Rs (sWhile mt M dead e s) Qs :=
  Rs_whileL Iv h m _ e s hm h0
/-- a comprehension whose turns leave the store -/
theorem R_lc {α : Type} (l : List α) (enc : α → D) (f : α → PyData) (p : α → Bool) {vs : List Nat} {mi : MI} {g : MG} {mt : MT} {el : ME} (hi : Ri (mi e s) fun items ck s1 => items = l.map enc ∧ ck = none ∧ s1 = s)
    (h : ∀ x ∈ l, ∀ acc, Rc (g (enc x) (wipeN e vs)) fun e1 => R (mt e1 (s ++ [.lst acc])) fun b s2 => b = p x ∧ s2 = s ++ [.lst acc] ∧ (p x = true → R (el e1 (s ++ [.lst acc])) fun d s3 => d = .d (f x) ∧ s3 = s ++ [.lst acc])) (hl : l.length ≤ lim) (q : Q (.d (.list ((l.filter p).map f))) s) : R (eLc false vs mi g mt el e s) Q := by
  obtain ⟨_, _, _, h1, rfl, rfl, rfl⟩ := hi
  refine R.of (eLc_d f p h1 (fun x hx acc => ?_) hl) q
  obtain ⟨e1, h2, b, s2, h3, rfl, rfl, h4⟩ := h x hx acc
  refine ⟨e1, h2, h3, fun hp => ?_⟩
  obtain ⟨_, _, h5, rfl, rfl⟩ := h4 hp
  exact h5
/-- .. that takes each -/
theorem R_lcm {α : Type} (l : List α) (enc : α → D) (f : α → PyData) {vs : List Nat} {mi : MI} {g : MG} {el : ME} (hi : Ri (mi e s) fun items ck s1 => items = l.map enc ∧ ck = none ∧ s1 = s)
    (h : ∀ x ∈ l, ∀ acc, Rc (g (enc x) (wipeN e vs)) fun e1 => R (el e1 (s ++ [.lst acc])) fun d s3 => d = .d (f x) ∧ s3 = s ++ [.lst acc]) (hl : l.length ≤ lim) (q : Q (.d (.list (l.map f))) s) : R (eLc false vs mi g tTrue el e s) Q := by
  refine R_lc l enc f (fun _ => true) hi (fun x hx acc => ?_) hl (by rwa [List.filter_eq_self.mpr (fun _ _ => rfl)])
  obtain ⟨e1, h1, h2⟩ := h x hx acc
  exact ⟨e1, h1, R_tTrue.mpr ⟨rfl, rfl, fun _ => h2⟩⟩
end
end N

namespace N
open PySem L2 PyProof.Rows

mutual
def pk : PyData → Bool
  | .none => true
  | .int _ => true
  | .str _ => true
  | .tuple xs => pks xs
  | .list xs => pks xs
  | _ => false
def pks : List PyData → Bool
  | [] => true
  | x :: xs => pk x && pks xs
end
mutual
theorem pk_plain : ∀ {x : PyData}, pk x = true → x.plain = true
  | .none, _ => rfl
  | .int _, _ => rfl
  | .str _, _ => rfl
  | .tuple xs, h => by unfold PyData.plain; exact pks_plain (by simpa [pk] using h)
  | .list xs, h => by unfold PyData.plain; exact pks_plain (by simpa [pk] using h)
  | .bool _, h => by simp [pk] at h
  | .dict _, h => by simp [pk] at h
theorem pks_plain : ∀ {xs : List PyData}, pks xs = true → PyData.plainAll xs = true
  | [], _ => rfl
  | x :: xs, h => by
    simp only [pks, Bool.and_eq_true] at h
    simp only [PyData.plainAll, Bool.and_eq_true]
    exact ⟨pk_plain h.1, pks_plain h.2⟩
end
mutual
theorem pk_eqv : ∀ {x y : PyData}, pk x = true → pk y = true → PyData.eqv x y = decide (x = y)
  | .none, y, _, h => by cases y <;> simp [PyData.eqv, pk] at h ⊢
  | .int _, y, _, h => by
    cases y with
    | int j => unfold PyData.eqv; simp [Bool.beq_eq_decide_eq]
    | _ => simp [PyData.eqv, pk] at h ⊢
  | .str _, y, _, h => by
    cases y with
    | str j => unfold PyData.eqv; simp [Bool.beq_eq_decide_eq]
    | _ => simp [PyData.eqv, pk] at h ⊢
  | .tuple xs, y, hx, h => by
    cases y with
    | tuple ys =>
      unfold PyData.eqv
      rw [pks_eqv (by simpa [pk] using hx) (by simpa [pk] using h)]
      simp
    | _ => simp [PyData.eqv, pk] at h ⊢
  | .list xs, y, hx, h => by
    cases y with
    | list ys =>
      unfold PyData.eqv
      rw [pks_eqv (by simpa [pk] using hx) (by simpa [pk] using h)]
      simp
    | _ => simp [PyData.eqv, pk] at h ⊢
  | .bool _, _, h, _ => by simp [pk] at h
  | .dict _, _, h, _ => by simp [pk] at h
theorem pks_eqv : ∀ {xs ys : List PyData}, pks xs = true → pks ys = true → PyData.eqvAll xs ys = decide (xs = ys)
  | [], [], _, _ => by simp [PyData.eqvAll]
  | [], _ :: _, _, _ => by simp [PyData.eqvAll]
  | _ :: _, [], _, _ => by simp [PyData.eqvAll]
  | x :: xs, y :: ys, h, h' => by
    simp only [pks, Bool.and_eq_true] at h h'
    unfold PyData.eqvAll
    rw [pk_eqv h.1 h'.1, pks_eqv h.2 h'.2]
    simp
end
section
variable {s : Sto}
theorem eqv_gen {a b : D} {x y : PyData} (ha : pd s a = some x) (hb : pd s b = some y) (hx : pk x = true) (hy : pk y = true) (hd : min x.depth y.depth ≤ 60) : cEqv s a b = some (decide (x = y)) := by
  unfold cEqv
  split
  · rename_i i j
    simp only [pd, Option.some.injEq] at ha hb
    subst ha; subst hb
    simp
  · simp only [ha, hb]
    rw [if_pos ⟨pk_plain hx, pk_plain hy, hd⟩, pk_eqv hx hy]
theorem v_eqP {a b : D} {x y : PyData} (ha : pd s a = some x) (hb : pd s b = some y) (hx : pk x = true) (hy : pk y = true) (hd : min x.depth y.depth ≤ 60) : cEq s a b = some (decide (x = y)) := eqv_gen ha hb hx hy hd
@[simp] theorem v_eqB (a b : Bool) : cEq s (.d (.bool a)) (.d (.bool b)) = some (decide (a = b)) := by
  unfold cEq cEqv
  simp [PyData.plain, PyData.depth, PyData.eqv, Bool.beq_eq_decide_eq]
@[simp] theorem v_neB (a b : Bool) : cNe s (.d (.bool a)) (.d (.bool b)) = some (!decide (a = b)) := by
  unfold cNe cEqv
  simp [PyData.plain, PyData.depth, PyData.eqv, Bool.beq_eq_decide_eq]
@[simp] theorem v_eqS (a b : Str) : cEq s (.d (.str a)) (.d (.str b)) = some (decide (a = b)) := v_eqP rfl rfl rfl rfl (by simp [PyData.depth]) |>.trans (by simp)
theorem v_inD {neg : Bool} {j : Nat} {kvs : List (PyData × D)} {x : PyData} (h : s[j]? = some (.dic kvs)) (hk : isKey x = true) : cIn neg s (.d x) (.r j) = some (if neg then !dHas kvs x else dHas kvs x) := by
  unfold cIn
  simp only [h, hk, if_true]
theorem v_inK {neg : Bool} {j : Nat} {kvs : List (Key × D)} {x : PyData} {k : Key} (h : s[j]? = some (.dk kvs)) (hk : keyOf x = some k) : cIn neg s (.d x) (.r j) = some (if neg then !kHas kvs k else kHas kvs k) := by
  unfold cIn
  simp only [h, hk]
end
theorem kOK_ints (ns : List Int) : Z.kOKs (ns.map PyData.int) = true := by
  induction ns with
  | nil => rfl
  | cons n ns ih => simp [Z.kOKs, Z.kOK, ih]
theorem dep_ints (ns : List Int) : Z.deps (ns.map PyData.int) = 0 := by
  induction ns with
  | nil => rfl
  | cons n ns ih => simp [Z.deps, Z.dep, ih]
theorem key_ints (ns : List Int) : isKey (.tuple (ns.map PyData.int)) = true := by
  simp [isKey, Z.isTup, Z.kOK, kOK_ints, Z.dep, dep_ints]
end N

namespace N
open PySem L2 PyProof.Rows

theorem R_retd {own : Bool} {s s' : Sto} {x : PyData} {Q : D → Sto → Prop} : R (ret own s (.d x) s') Q ↔ Q (.d x) (trim s s') := R_some
/-- the tape stands in cells 0 and 1, what follows is kept -/
def tp (xs : List Int) (p q r : Int) (rest : Sto) : Sto := .lst (xs.map fun i => .d (.int i)) :: .lst [.r 0, .d (.int p), .d (.int q), .d (.int r)] :: rest
def TS (rest s : Sto) : Prop := ∃ xs p q r, 0 ≤ p ∧ s = tp xs p q r rest
section
variable {xs : List Int} {p q r : Int} {rest : Sto}
end
end N

namespace N
open PySem L2 PyProof.Rows

noncomputable def b__law_same (rec : FA) : MS := (sSeq (sIf (tOr (tAnd (tVal (eIsi .tup (eVar 0))) (tVal (eIsi .tup (eVar 1)))) (tAnd (tVal (eIsi .lst (eVar 0))) (tVal (eIsi .lst (eVar 1))))) (sSeq (sRet (eAnd (eCmp cEq (eCall bLen (aCons (eVar 0) aNil)) (eCall bLen (aCons (eVar 1) aNil))) (eCall bAll (aCons (eLc false [2] (iRng1 (aCons (eCall bLen (aCons (eVar 0) aNil)) aNil)) (gName 2) tTrue (eCall rec (aCons (eIt (eVar 0) (eVar 2)) (aCons (eIt (eVar 1) (eVar 2)) aNil)))) aNil))))
  sNil) sNil)
  (sSeq (sIf (tOr (tVal (eIsi .bl (eVar 0))) (tVal (eIsi .bl (eVar 1)))) (sSeq (sRet (eAnd (eIsi .bl (eVar 0)) (eAnd (eIsi .bl (eVar 1)) (eCmp cEq (eVar 0) (eVar 1)))))
  sNil) sNil)
  (sSeq (sIf (tOr (tAnd (tVal (eIsi .int (eVar 0))) (tVal (eIsi .int (eVar 1)))) (tAnd (tVal (eIsi .str (eVar 0))) (tVal (eIsi .str (eVar 1))))) (sSeq (sRet (eCmp cEq (eVar 0) (eVar 1)))
  sNil) sNil)
  (sSeq (sRet (eAnd (eCmp (cIsN false) (eVar 0) (eC .none)) (eCmp (cIsN false) (eVar 1) (eC .none))))
  sNil))))
noncomputable def m__law_same : Nat → FA
  | 0 => fun _ _ => none
  | n + 1 => fnR 2 3 false (b__law_same (m__law_same n))
/-- data that is equal to itself, of no great depth -/
def sok : Nat → PyData → Prop
  | 0, _ => False
  | n + 1, .tuple xs => xs.length ≤ lim ∧ ∀ x ∈ xs, sok n x
  | n + 1, .list xs => xs.length ≤ lim ∧ ∀ x ∈ xs, sok n x
  | _ + 1, .dict _ => False
  | _ + 1, _ => True
theorem sok_int (n : Nat) (i : Int) : sok (n + 1) (.int i) := by unfold sok; trivial
theorem sok_tup {n : Nat} {xs : List PyData} (hl : xs.length ≤ lim) (h : ∀ x ∈ xs, sok n x) : sok (n + 1) (.tuple xs) := ⟨hl, h⟩
theorem bools_true (xs : List Nat) : bools ((xs.map fun _ => PyData.bool true).map D.d) = some (xs.map fun _ => true) := by
  induction xs with
  | nil => rfl
  | cons x xs ih => simp only [List.map_cons, bools, ih]
theorem v_all {s : Sto} (xs : List Nat) : bAll s [.d (.list (xs.map fun _ => PyData.bool true))] = some (.d (.bool true), s) := by
  unfold bAll qL f1 asL
  simp only [bools_true]
  simp
theorem rng_mem {k n : Nat} (h : k ∈ List.range n) : k < n := List.mem_range.mp h
theorem same_row {F : FA} {xs : List PyData} {s : Sto} {Q : D → Sto → Prop} {l0 : Option D} {d : D} (hd : d = .d (.tuple xs) ∨ d = .d (.list xs)) (hl : xs.length ≤ lim) (h : ∀ x ∈ xs, ∀ s, F s [.d x, .d x] = some (.d (.bool true), s)) (q : Q (.d (.list ((List.range xs.length).map fun _ => .bool true))) s) :
    R (eLc false [2] (iRng1 (aCons (eCall bLen (aCons (eVar 0) aNil)) aNil)) (gName 2) tTrue (eCall F (aCons (eIt (eVar 0) (eVar 2)) (aCons (eIt (eVar 1) (eVar 2)) aNil))) [some d, some d, l0] s) Q := by
  have hl' : xs.length ≤ 1000000 := hl
  refine R_lcm (List.range xs.length) (fun k => .d (.int ((0 : Int) + (k : Nat)))) (fun _ => .bool true) ?_ (fun k hk acc => ?_) (by simpa using hl) q
  · rcases hd with rfl | rfl
    · simp [rngD]
      omega
    · simp [rngD, len_l]
      omega
  · have hk := rng_mem hk
    have hx : xs[k]? = some xs[k] := List.getElem?_eq_getElem hk
    have hh : itF (s ++ [.lst acc]) d (.d (.int (k : Nat))) = some (.d xs[k]) := by
      rcases hd with rfl | rfl
      · exact itF_t (atI_nat hx)
      · exact itF_tl (atI_nat hx)
    simp [wipeN, R_it, hh, h _ (List.getElem_mem hk)]
theorem same_ok : ∀ (n : Nat) (x : PyData) (s : Sto), sok n x → m__law_same n s [.d x, .d x] = some (.d (.bool true), s)
  | 0, _, _, h => h.elim
  | n + 1, x, s, h => by
    apply R.eq
    unfold m__law_same b__law_same
    cases x with
    | tuple xs =>
      obtain ⟨hl, h⟩ := h
      simp [R_fn, TyT.of, Z.isTup, Z.isLst, Z.isBl, Z.isInt, Z.isStr]
      refine same_row (.inl rfl) hl (fun x hx s => same_ok n x s (h x hx)) ?_
      simp [v_all, R_retd]
    | list xs =>
      obtain ⟨hl, h⟩ := h
      simp [R_fn, TyT.of, Z.isTup, Z.isLst, Z.isBl, Z.isInt, Z.isStr, len_l]
      refine same_row (.inr rfl) hl (fun x hx s => same_ok n x s (h x hx)) ?_
      simp [v_all, R_retd]
    | dict kvs => exact h.elim
    | int i => simp [R_fn, TyT.of, Z.isTup, Z.isLst, Z.isBl, Z.isInt, Z.isStr, R_retd]
    | bool i => simp [R_fn, TyT.of, Z.isTup, Z.isLst, Z.isBl, Z.isInt, Z.isStr, R_retd]
    | str i => simp [R_fn, TyT.of, Z.isTup, Z.isLst, Z.isBl, Z.isInt, Z.isStr, R_retd]
    | none => simp [R_fn, TyT.of, Z.isTup, Z.isLst, Z.isBl, Z.isInt, Z.isStr, R_retd]
theorem R_same {n : Nat} {x : PyData} {s : Sto} {Q : D → Sto → Prop} (h : sok n x) (q : Q (.d (.bool true)) s) : R (m__law_same n s [.d x, .d x]) Q := .of (same_ok n x s h) q

theorem data_mapf {α : Type} (f : α → PyData) (l : List α) : data (l.map (D.d ∘ f)) = some (l.map f) := by
  rw [← List.map_map, data_map]
theorem ret_own {s s' : Sto} {j : Nat} {Q : D → Sto → Prop} (h : s.length ≤ j) : R (ret true s (.r j) s') Q ↔ Q (.r j) s' := by
  unfold ret
  simp only [if_neg (show ¬ j < s.length by omega), if_true, R_some]
end N

namespace N
open PySem L2 PyProof.Rows

theorem or_split (a : Nat) : ∀ b : Nat, a ||| b = (a ^^^ b) + (a &&& b) := by
  induction a using Nat.strongRecOn with
  | _ a ih =>
    intro b
    by_cases h : a = 0
    · subst h; simp
    · have h1 := ih (a / 2) (by omega) (b / 2)
      have o := Nat.or_div_two (a := a) (b := b)
      have x := Nat.xor_div_two (a := a) (b := b)
      have n := Nat.and_div_two (a := a) (b := b)
      have o2 := Nat.or_mod_two_pow (a := a) (b := b) (n := 1)
      have x2 := Nat.xor_mod_two_pow (a := a) (b := b) (n := 1)
      have n2 := Nat.and_mod_two_pow (a := a) (b := b) (n := 1)
      rw [← o, ← x, ← n] at h1
      simp only [Nat.pow_one] at o2 x2 n2
      rcases Nat.mod_two_eq_zero_or_one a with e | e <;> rcases Nat.mod_two_eq_zero_or_one b with f | f <;> rw [e, f] at o2 x2 n2 <;> simp only [Nat.reduceAnd, Nat.reduceXor, Nat.reduceOr, Nat.or_zero, Nat.zero_or, Nat.xor_zero, Nat.zero_xor, Nat.and_zero, Nat.zero_and] at o2 x2 n2 <;> omega
theorem bitOr_nat (a b : Nat) : Builtin.bitOr (a : Int) (b : Int) = ((a ||| b : Nat) : Int) := by
  unfold Builtin.bitOr Builtin.bitAnd Builtin.bitNot
  rw [show decide ((0 : Int) ≤ -(a : Int) - 1) = false by simp; omega, show decide ((0 : Int) ≤ -(b : Int) - 1) = false by simp; omega]
  simp only []
  rw [show (-(-(a : Int) - 1) - 1).toNat = a by omega, show (-(-(b : Int) - 1) - 1).toNat = b by omega]
  omega
theorem bitXor_nat (a b : Nat) : Builtin.bitXor (a : Int) (b : Int) = ((a ^^^ b : Nat) : Int) := by
  have h := or_split a b
  unfold Builtin.bitXor
  rw [bitOr_nat, bitAnd_pp (by omega) (by omega)]
  simp only [Int.toNat_natCast]
  omega
/-- .. of some -/
def xr : List Nat → Nat
  | [] => 0
  | n :: ns => n ^^^ xr ns
end N

namespace N
open PySem L2 PyProof.Rows

/-- a row of numbers -/
def nt (ns : List Nat) : List PyData := ns.map fun n => .int (n : Nat)
@[simp] theorem nt_len (ns : List Nat) : (nt ns).length = ns.length := by simp [nt]
def ci (n : Nat) : Int := n
end N

namespace N
open PySem L2 PyProof.Rows

def Rm (o : Option (List D × D)) (Q : List D → D → Prop) : Prop := ∃ ys z, o = some (ys, z) ∧ Q ys z
@[simp] theorem Rm_some {ys : List D} {z : D} {Q : List D → D → Prop} : Rm (some (ys, z)) Q ↔ Q ys z := ⟨fun ⟨_, _, h, q⟩ => by cases h; exact q, fun q => ⟨_, _, rfl, q⟩⟩
@[simp] theorem Rm_none {Q : List D → D → Prop} : Rm none Q ↔ False := ⟨fun ⟨_, _, h, _⟩ => (by cases h), False.elim⟩
theorem trim_len {s s' : Sto} (h : s'.length = s.length) : trim s s' = s' := by
  unfold trim
  split
  · rw [← h, List.take_length]
  · rfl
theorem trimE_len {s s' : Sto} {e : Lo} (h : s'.length = s.length) : trimE s e s' = s' := by
  unfold trimE
  split
  · exact trim_len h
  · rfl
@[simp] theorem trimE_last {s : Sto} {c c' : Cell} {e : Lo} : trimE (s ++ [c]) e (s ++ [c']) = s ++ [c'] := trimE_len (by simp)
@[simp] theorem set_last {s : Sto} {c c' : Cell} : (s ++ [c]).set s.length c' = s ++ [c'] := by
  rw [List.set_append_right _ _ (Nat.le_refl _), Nat.sub_self]
  rfl
section
variable {e : Lo} {s : Sto} {Q : D → Sto → Prop}
@[simp] theorem R_meth (f : FM) (ma : ME) (ms : MA) : R (eMeth f ma ms e s) Q ↔ R (ma e s) fun o s1 => match o with
  | .r j => match s1[j]? with
    | some (.lst _) => R (ms e s1) fun ds s2 => match s2[j]? with
      | some (.lst xs) => Rm (f s2 xs ds) fun ys z => Q z (s2.set j (.lst ys))
      | _ => False
    | _ => False
  | _ => False := by
  unfold eMeth
  rcases ma e s with _ | ⟨o, s1⟩
  · simp
  · rcases o with x | j
    · simp
    · simp only [R_some]
      rcases s1[j]? with _ | c
      · simp
      · rcases c with ds | kvs | kvs | kvs | ⟨rl, rh⟩ | td | ⟨iC, ifs⟩ | _
        · rcases h : ms e s1 with _ | ⟨as, s2⟩
          · simp [h]
          · simp only [h, R_some]
            rcases s2[j]? with _ | c
            · simp
            · rcases c with xs | kvs | kvs | kvs | ⟨rl, rh⟩ | td | ⟨iC, ifs⟩ | _
              · simp only []
                rcases h2 : f s2 xs as with _ | ⟨ys, z⟩ <;> simp [h2]
              · simp
              · simp
              · simp
              · simp
              · simp
              · simp
              · simp
        · simp
        · simp
        · simp
        · simp
        · simp
        · simp
        · simp
@[simp] theorem v_app {xs : List D} {d : D} {Qm : List D → D → Prop} : Rm (fApp s xs [d]) Qm ↔ xs.length < lim ∧ Qm (xs ++ [d]) (.d .none) := by
  unfold fApp
  by_cases h : xs.length < lim <;> simp [h]
theorem v_ext {xs ys : List D} {d : D} {Qm : List D → D → Prop} (h : asL s d = some ys) : Rm (fExt s xs [d]) Qm ↔ xs.length + ys.length ≤ lim ∧ Qm (xs ++ ys) (.d .none) := by
  unfold fExt
  by_cases hl : xs.length + ys.length ≤ lim <;> simp [h, hl]
@[simp] theorem v_extL {xs : List D} {ys : List PyData} {Qm : List D → D → Prop} : Rm (fExt s xs [.d (.list ys)]) Qm ↔ xs.length + ys.length ≤ lim ∧ Qm (xs ++ ys.map .d) (.d .none) := by
  rw [v_ext (ys := ys.map .d) rfl, List.length_map]
end
theorem kHas_put {kvs : List (Key × D)} {k k' : Key} {d : D} : kHas (kPut kvs k d) k' = true ↔ k' = k ∨ kHas kvs k' = true := by
  unfold kPut kHas
  split
  · rename_i h
    simp only [List.any_map, List.any_eq_true, Function.comp, decide_eq_true_eq] at h ⊢
    constructor
    · rintro ⟨kv, hm, he⟩
      split at he
      · exact .inr ⟨kv, hm, he⟩
      · exact .inr ⟨kv, hm, he⟩
    · rintro (rfl | ⟨kv, hm, he⟩)
      · obtain ⟨kv, hm, he⟩ := h
        exact ⟨kv, hm, by split <;> exact he⟩
      · exact ⟨kv, hm, by split <;> exact he⟩
  · simp only [List.any_append, List.any_cons, List.any_nil, Bool.or_false, Bool.or_eq_true, decide_eq_true_eq]
    constructor
    · rintro (h | h)
      · exact .inr h
      · exact .inl h.symm
    · rintro (h | h)
      · exact .inr h.symm
      · exact .inl h
theorem kPut_len {kvs : List (Key × D)} {k : Key} {d : D} : (kPut kvs k d).length ≤ kvs.length + 1 := by
  unfold kPut
  split <;> simp
end N

namespace N
open PySem L2 PyProof.Rows

/-- the least that is missing -/
def Mex (ns : List Nat) (k : Nat) : Prop := (∀ i < k, i ∈ ns) ∧ k ∉ ns
theorem Mex.uniq {ns : List Nat} {k k' : Nat} (h : Mex ns k) (h' : Mex ns k') : k = k' := by
  rcases Nat.lt_trichotomy k k' with l | l | l
  · exact (h.2 (h'.1 k l)).elim
  · exact l
  · exact (h'.2 (h.1 k' l)).elim
end N

namespace N
open PySem L2 PyProof.Rows

def so (l : List Nat) : List Nat := l.mergeSort fun a b => decide (a ≤ b)
theorem so_perm (l : List Nat) : (so l).Perm l := List.mergeSort_perm _ _
theorem depth_nt (l : List Nat) : (PyData.tuple (nt l)).depth ≤ 1 := by
  have : PyData.depthAll (nt l) = 0 := by
    induction l with
    | nil => rfl
    | cons a l ih => rw [nt, List.map_cons, PyData.depthAll]; rw [nt] at ih; rw [ih]; simp [PyData.depth]
  simp [PyData.depth, this]
/-- the heaps that stand -/
def pl (l : List Nat) : List Nat := so (l.filter fun n => decide (0 < n))
theorem sum_perm {l m : List Nat} (h : l.Perm m) : l.sum = m.sum := h.sum_nat
theorem sum_filter (l : List Nat) : (l.filter fun n => decide (0 < n)).sum = l.sum := by
  induction l with
  | nil => rfl
  | cons a l ih =>
    rw [List.filter_cons]
    by_cases h : 0 < a
    · simp [h, ih]
    · simp [h, ih]; omega
theorem pl_sum (l : List Nat) : (pl l).sum = l.sum := by rw [pl, sum_perm (so_perm _), sum_filter]
theorem pl_mem {l : List Nat} {n : Nat} : n ∈ pl l ↔ n ∈ l ∧ 0 < n := by
  rw [pl, (so_perm _).mem_iff, List.mem_filter, decide_eq_true_eq]
end N

namespace N
open PySem L2 PyProof.Rows

section
variable (rst : Nat → List (List Nat)) (losing : Bool)
def opts (hs : List Nat) : List (List Nat) := (List.range hs.length).flatMap fun i => (rst (hs.getD i 0)).map fun r => pl (hs.take i ++ r ++ hs.drop (i + 1))
def secF : Nat → List Nat → Bool
  | 0, _ => false
  | f + 1, hs => if opts rst hs = [] then !losing else !((opts rst hs).any (secF f))
def sec (hs : List Nat) : Bool := secF rst losing (hs.sum + 1) hs
end
section
variable {rst : Nat → List (List Nat)} {losing : Bool}
theorem sum_split {hs : List Nat} {i : Nat} (h : i < hs.length) : hs.sum = (hs.take i).sum + hs.getD i 0 + (hs.drop (i + 1)).sum := by
  have e : hs = hs.take i ++ hs[i] :: hs.drop (i + 1) := by rw [← List.drop_eq_getElem_cons h, List.take_append_drop]
  have := congrArg List.sum e
  rw [this, List.sum_append, List.sum_cons, List.getD_eq_getElem?_getD, List.getElem?_eq_getElem h]
  simp only [Option.getD_some]
  omega
theorem mem_opts {hs o : List Nat} : o ∈ opts rst hs ↔ ∃ i, i < hs.length ∧ ∃ r ∈ rst (hs.getD i 0), o = pl (hs.take i ++ r ++ hs.drop (i + 1)) := by
  unfold opts
  simp only [List.mem_flatMap, List.mem_range, List.mem_map]
  constructor
  · rintro ⟨i, h1, r, h2, rfl⟩; exact ⟨i, h1, r, h2, rfl⟩
  · rintro ⟨i, h1, r, h2, rfl⟩; exact ⟨i, h1, r, h2, rfl⟩
theorem getD_le {hs : List Nat} {i N : Nat} (hS : ∀ a ∈ hs, a ≤ N) (h : i < hs.length) : hs.getD i 0 ≤ N := by
  rw [List.getD_eq_getElem?_getD, List.getElem?_eq_getElem h]
  exact hS _ (List.getElem_mem h)
theorem mem_le_sum {l : List Nat} {a : Nat} (h : a ∈ l) : a ≤ l.sum := by
  induction l with
  | nil => cases h
  | cons b l ih =>
    rw [List.sum_cons]
    rcases List.mem_cons.mp h with rfl | h
    · omega
    · have := ih h; omega
theorem opts_le {N : Nat} (hr : ∀ n ≤ N, ∀ r ∈ rst n, r.sum < n) {hs o : List Nat} (hS : ∀ a ∈ hs, a ≤ N) (h : o ∈ opts rst hs) : ∀ a ∈ o, a ≤ N := by
  obtain ⟨i, h1, r, h2, rfl⟩ := mem_opts.mp h
  intro a ha
  have := hr _ (getD_le hS h1) r h2
  have hN := getD_le hS h1
  rcases List.mem_append.mp (pl_mem.mp ha).1 with h3 | h3
  · rcases List.mem_append.mp h3 with h3 | h3
    · exact hS a (List.mem_of_mem_take h3)
    · have := mem_le_sum h3; omega
  · exact hS a (List.mem_of_mem_drop h3)
theorem opts_sum {N : Nat} (hr : ∀ n ≤ N, ∀ r ∈ rst n, r.sum < n) {hs o : List Nat} (hS : ∀ a ∈ hs, a ≤ N) (h : o ∈ opts rst hs) : o.sum < hs.sum := by
  obtain ⟨i, h1, r, h2, rfl⟩ := mem_opts.mp h
  have e := sum_split h1
  have := hr _ (getD_le hS h1) r h2
  rw [pl_sum, List.sum_append, List.sum_append]
  omega
theorem secF_two {N : Nat} (hr : ∀ n ≤ N, ∀ r ∈ rst n, r.sum < n) : ∀ (f g : Nat) (hs : List Nat), hs.sum < f → hs.sum < g → (∀ a ∈ hs, a ≤ N) → secF rst losing f hs = secF rst losing g hs
  | 0, _, hs, h, _, _ => by omega
  | _ + 1, 0, hs, _, h, _ => by omega
  | f + 1, g + 1, hs, h, h', hS => by
    rw [secF, secF]
    split
    · rfl
    · congr 1
      rw [Bool.eq_iff_iff, List.any_eq_true, List.any_eq_true]
      have e o (ho : o ∈ opts rst hs) : secF rst losing f o = secF rst losing g o := by
        have := opts_sum hr hS ho
        exact secF_two hr f g o (by omega) (by omega) (opts_le hr hS ho)
      constructor
      · rintro ⟨o, h1, h2⟩; exact ⟨o, h1, by rwa [← e o h1]⟩
      · rintro ⟨o, h1, h2⟩; exact ⟨o, h1, by rwa [e o h1]⟩
theorem secF_enough {N : Nat} (hr : ∀ n ≤ N, ∀ r ∈ rst n, r.sum < n) (f : Nat) (hs : List Nat) (h : hs.sum < f) (hS : ∀ a ∈ hs, a ≤ N) : secF rst losing f hs = sec rst losing hs := secF_two hr f _ hs h (by omega) hS
theorem sec_eq {N : Nat} (hr : ∀ n ≤ N, ∀ r ∈ rst n, r.sum < n) {hs : List Nat} (hS : ∀ a ∈ hs, a ≤ N) : sec rst losing hs = if opts rst hs = [] then !losing else !((opts rst hs).any (sec rst losing)) := by
  rw [show sec rst losing hs = secF rst losing (hs.sum + 1) hs from rfl]
  rw [secF]
  split
  · rfl
  · congr 1
    rw [Bool.eq_iff_iff, List.any_eq_true, List.any_eq_true]
    have h o (ho : o ∈ opts rst hs) : secF rst losing hs.sum o = sec rst losing o := by
      have := opts_sum hr hS ho
      exact secF_enough hr _ _ this (opts_le hr hS ho)
    constructor
    · rintro ⟨o, h1, h2⟩; exact ⟨o, h1, by rwa [← h o h1]⟩
    · rintro ⟨o, h1, h2⟩; exact ⟨o, h1, by rwa [h o h1]⟩
end
/-- rows that ascend from lo, of a sum of n at most -/
def rowsOf : Nat → Nat → Nat → List (List Nat)
  | 0, _, _ => [[]]
  | f + 1, lo, n => [] :: (List.range (n + 1)).flatMap fun a => if lo ≤ a ∧ 0 < a then (rowsOf f a (n - a)).map (a :: ·) else []
theorem rowsOf_mem : ∀ {l : List Nat} {f lo n : Nat}, l.Pairwise (· ≤ ·) → (∀ a ∈ l, lo ≤ a ∧ 0 < a) → l.sum ≤ n → l.length ≤ f → l ∈ rowsOf f lo n
  | [], 0, _, _, _, _, _, _ => by simp [rowsOf]
  | [], f + 1, _, _, _, _, _, _ => by simp [rowsOf]
  | a :: l, f + 1, lo, n, hp, hl, hs, hf => by
    rw [rowsOf, List.mem_cons]
    refine .inr (List.mem_flatMap.mpr ⟨a, ?_, ?_⟩)
    · rw [List.sum_cons] at hs
      rw [List.mem_range]; omega
    · rw [if_pos (hl a List.mem_cons_self)]
      rw [List.pairwise_cons] at hp
      rw [List.sum_cons] at hs
      refine List.mem_map.mpr ⟨l, rowsOf_mem hp.2 (fun b hb => ⟨hp.1 b hb, (hl b (List.mem_cons_of_mem _ hb)).2⟩) (by omega) (by simpa using hf), rfl⟩
theorem sum_len : ∀ {l : List Nat}, (∀ a ∈ l, 0 < a) → l.length ≤ l.sum
  | [], _ => by simp
  | a :: l, h => by
    have := sum_len (l := l) fun b hb => h b (List.mem_cons_of_mem _ hb)
    have := h a List.mem_cons_self
    simp; omega
/-- how many they are -/
def cntOf : Nat → Nat → Nat → Nat
  | 0, _, _ => 1
  | f + 1, lo, n => 1 + ((List.range (n + 1)).map fun a => if lo ≤ a ∧ 0 < a then cntOf f a (n - a) else 0).sum
theorem cntOf_len : ∀ (f lo n : Nat), (rowsOf f lo n).length = cntOf f lo n
  | 0, _, _ => rfl
  | f + 1, lo, n => by
    rw [rowsOf, cntOf, List.length_cons, List.length_flatMap, Nat.add_comm]
    congr 2
    refine List.map_congr_left fun a _ => ?_
    split
    · rw [List.length_map, cntOf_len f]
    · rfl
theorem nodup_le {α : Type} [DecidableEq α] : ∀ {l m : List α}, l.Nodup → (∀ x ∈ l, x ∈ m) → l.length ≤ m.length
  | [], _, _, _ => by simp
  | a :: l, m, hn, hs => by
    rw [List.nodup_cons] at hn
    have h1 := hs a List.mem_cons_self
    have := nodup_le (l := l) (m := m.erase a) hn.2 fun x hx => (List.mem_erase_of_ne (fun e => hn.1 (by rwa [e] at hx))).mpr (hs x (List.mem_cons_of_mem _ hx))
    rw [List.length_erase_of_mem h1] at this
    have := List.length_pos_of_mem h1
    simp; omega
theorem few21 : cntOf 21 0 21 ≤ 5000 := by decide +kernel
end N

namespace N
open PySem L2 PyProof.Rows

theorem nt_inj {a b : List Nat} (h : nt a = nt b) : a = b := by
  have := congrArg (List.map fun x => match x with | PyData.int i => i.toNat | _ => 0) h
  simpa [nt, Function.comp_def] using this
theorem key_nt (l : List Nat) : isKey (.tuple (nt l)) = true := by
  have := key_ints (l.map ci)
  rwa [List.map_map] at this
section
variable (rst : Nat → List (List Nat)) (losing : Bool)
def ent (h : List Nat) : PyData × D := (.tuple (nt h), .d (.bool (sec rst losing h)))
end
structure Gd (N S : Nat) (h : List Nat) : Prop where
  so : h.Pairwise (· ≤ ·)
  po : ∀ a ∈ h, 0 < a
  su : h.sum ≤ S
  le : ∀ a ∈ h, a ≤ N
structure MOK (N S : Nat) (M : List (List Nat)) : Prop where
  nd : M.Nodup
  gd : ∀ h ∈ M, Gd N S h
theorem MOK.few {N : Nat} {M : List (List Nat)} (h : MOK N 21 M) : M.length ≤ 5000 := by
  have := nodup_le (m := rowsOf 21 0 21) h.nd fun x hx => by
    have g := h.gd x hx
    exact rowsOf_mem g.so (fun a ha => ⟨Nat.zero_le _, g.po a ha⟩) g.su (Nat.le_trans (sum_len g.po) g.su)
  rw [cntOf_len] at this
  exact Nat.le_trans this few21
section
variable {rst : Nat → List (List Nat)} {losing : Bool} {c : D} {N S : Nat}
theorem MOK.put {M : List (List Nat)} {h : List Nat} (m : MOK N S M) (g : Gd N S h) : MOK N S (if h ∈ M then M else M ++ [h]) := by
  split
  · exact m
  · rename_i hn
    refine ⟨?_, fun x hx => ?_⟩
    · rw [List.nodup_append]
      exact ⟨m.nd, by simp, fun a ha b hb => by simp at hb; subst hb; exact fun e => hn (e ▸ ha)⟩
    · rcases List.mem_append.mp hx with h' | h'
      · exact m.gd x h'
      · simp at h'; exact h' ▸ g
end
end N

namespace N
open PySem L2 PyProof.Rows

section
variable {rst : Nat → List (List Nat)} {losing : Bool} {c : D} {N S : Nat}
theorem set_same {s : Sto} {j : Nat} {c : Cell} (h : s[j]? = some c) : s.set j c = s := by
  apply List.ext_getElem?
  intro i
  rw [List.getElem?_set]
  split
  · rename_i e
    subst e
    split
    · exact h.symm
    · rename_i hl
      rw [List.getElem?_eq_none (by omega)]
  · rfl
/-- a row of a tuple -/
def ut : PyData → List Nat
  | .tuple xs => xs.map fun x => match x with
    | .int i => i.toNat
    | _ => 0
  | _ => []
theorem ut_nt (l : List Nat) : ut (.tuple (nt l)) = l := by simp [ut, nt, Function.comp_def]
theorem alike_nt (a b : List Nat) : PySem.W.alike (.tuple (nt a)) (.tuple (nt b)) = true := by
  have := PySem.W.alike_ints (a.map ci) (b.map ci)
  rw [List.map_map, List.map_map] at this
  rw [PySem.W.alike]
  exact this
def plo (hs : List Nat) (i : Nat) (r : List Nat) : List Nat := pl (hs.take i ++ r ++ hs.drop (i + 1))
def NewOf (rst : Nat → List (List Nat)) (hs : List Nat) (i : Nat) (o : List Nat) : Prop := ∃ i', i' < i ∧ ∃ r ∈ rst (hs.getD i' 0), o = plo hs i' r
theorem newOf_succ {hs o : List Nat} {i : Nat} : NewOf rst hs (i + 1) o ↔ NewOf rst hs i o ∨ ∃ r ∈ rst (hs.getD i 0), o = plo hs i r := by
  constructor
  · rintro ⟨i', h1, h2⟩
    rcases Nat.lt_or_ge i' i with h | h
    · exact .inl ⟨i', h, h2⟩
    · exact .inr (by rwa [show i' = i by omega] at h2)
  · rintro (⟨i', h1, h2⟩ | h)
    · exact ⟨i', by omega, h2⟩
    · exact ⟨i, by omega, h⟩
theorem newOf_all {hs o : List Nat} : NewOf rst hs hs.length o ↔ o ∈ opts rst hs := by
  rw [mem_opts]
  rfl
end
end N

namespace N
open PySem L2 PyProof.Rows

end N

namespace N
open PySem L2 PyProof.Rows

theorem TS.len {rest s : Sto} (h : TS rest s) : s.length = 2 + rest.length := by
  obtain ⟨xs, p, q, r, _, rfl⟩ := h
  simp [tp]; omega
theorem TS.app {rest s : Sto} (h : TS rest s) (g : Sto) : TS (rest ++ g) (s ++ g) := by
  obtain ⟨xs, p, q, r, hp, rfl⟩ := h
  exact ⟨xs, p, q, r, hp, rfl⟩
theorem TS.get {rest s : Sto} (h : TS rest s) (j : Nat) : s[j + 2]? = rest[j]? := by
  obtain ⟨xs, p, q, r, hp, rfl⟩ := h
  rfl
theorem TS.put {rest s : Sto} (h : TS rest s) (j : Nat) (c : Cell) : TS (rest.set j c) (s.set (j + 2) c) := by
  obtain ⟨xs, p, q, r, hp, rfl⟩ := h
  exact ⟨xs, p, q, r, hp, rfl⟩
end N

namespace N
open PySem L2 PyProof.Rows

def resC (d rest : Nat) : List (List Nat) := (if rest = 0 ∧ d % 2 = 1 then [[]] else []) ++ ((if 1 ≤ rest ∧ d / 2 % 2 = 1 then [[rest]] else []) ++ (if 2 ≤ rest ∧ d / 4 = 1 then (List.range (rest / 2)).map fun a => [a + 1, rest - (a + 1)] else []))
def rstC (c : List Nat) (n : Nat) : List (List Nat) := (List.range c.length).flatMap fun j => if j < n then resC (c.getD j 0) (n - j - 1) else []
theorem resC_sum {d rest : Nat} {r : List Nat} (h : r ∈ resC d rest) : r.sum = rest ∧ r.length ≤ 2 ∧ ∀ a ∈ r, 0 < a := by
  unfold resC at h
  rcases List.mem_append.mp h with h | h
  · split at h
    · rename_i e
      simp at h; subst h
      exact ⟨by simp; omega, by simp, by simp⟩
    · simp at h
  · rcases List.mem_append.mp h with h | h
    · split at h
      · rename_i e
        simp at h; subst h
        exact ⟨by simp, by simp, by simp; omega⟩
      · simp at h
    · split at h
      · obtain ⟨a, ha, rfl⟩ := List.mem_map.mp h
        rw [List.mem_range] at ha
        exact ⟨by simp; omega, by simp, by simp; omega⟩
      · simp at h
theorem mem_rstC {c : List Nat} {n : Nat} {r : List Nat} : r ∈ rstC c n ↔ ∃ j, j < c.length ∧ j < n ∧ r ∈ resC (c.getD j 0) (n - j - 1) := by
  unfold rstC
  simp only [List.mem_flatMap, List.mem_range]
  constructor
  · rintro ⟨j, h1, h2⟩
    split at h2
    · exact ⟨j, h1, by assumption, h2⟩
    · cases h2
  · rintro ⟨j, h1, h2, h3⟩
    exact ⟨j, h1, by rw [if_pos h2]; exact h3⟩
theorem rstC_sum {c : List Nat} {n : Nat} {r : List Nat} (h : r ∈ rstC c n) : r.sum < n ∧ r.length ≤ 2 ∧ (∀ a ∈ r, 0 < a) ∧ ∀ a ∈ r, a < n := by
  obtain ⟨j, h1, h2, h3⟩ := mem_rstC.mp h
  obtain ⟨e1, e2, e3⟩ := resC_sum h3
  refine ⟨by omega, e2, e3, fun a ha => ?_⟩
  have := mem_le_sum ha
  omega
theorem Mex.congr {l m : List Nat} {k : Nat} (h : Mex l k) (e : ∀ x, x ∈ l ↔ x ∈ m) : Mex m k := ⟨fun i hi => (e i).mp (h.1 i hi), fun hm => h.2 ((e k).mpr hm)⟩
end N

namespace N
open PySem L2 PyProof.Rows

/-- a tuple of numbers -/
def tup (r : List Nat) : PyData := .tuple (nt r)
theorem tup_inj {a b : List Nat} (h : tup a = tup b) : a = b := by
  unfold tup at h
  exact nt_inj (PyData.tuple.inj h)
theorem ut_tup (r : List Nat) : ut (tup r) = r := ut_nt r
/-- what may be left, ascending -/
noncomputable def lcD (c : List Nat) (n : Nat) : List (List Nat) := (Z.srt (Z.dd ((rstC c n).map tup))).map ut
theorem mem_srtdd {L : List (List Nat)} {x : PyData} : x ∈ Z.srt (Z.dd (L.map tup)) ↔ ∃ r ∈ L, x = tup r := by
  rw [(Z.srt_perm _).mem_iff, Z.dd_mem, List.mem_map]
  constructor
  · rintro ⟨r, h, rfl⟩; exact ⟨r, h, rfl⟩
  · rintro ⟨r, h, rfl⟩; exact ⟨r, h, rfl⟩
theorem mem_lcD {c : List Nat} {n : Nat} {r : List Nat} : r ∈ lcD c n ↔ r ∈ rstC c n := by
  unfold lcD
  rw [List.mem_map]
  constructor
  · rintro ⟨x, h, rfl⟩
    obtain ⟨r, hr, rfl⟩ := mem_srtdd.mp h
    rwa [ut_tup]
  · intro h
    exact ⟨tup r, mem_srtdd.mpr ⟨r, h, rfl⟩, ut_tup r⟩
end N

namespace N
open PySem L2 PyProof.Rows

def DT (M : List (List Nat)) : List (PyData × D) := M.map fun r => (tup r, .d (.bool true))
theorem has_DT (M : List (List Nat)) (r : List Nat) : dHas (DT M) (tup r) = decide (r ∈ M) := by
  rw [Bool.eq_iff_iff, decide_eq_true_eq]
  unfold dHas DT
  simp only [List.any_map, List.any_eq_true, Function.comp, decide_eq_true_eq]
  exact ⟨fun ⟨x, h1, h2⟩ => tup_inj h2 ▸ h1, fun h1 => ⟨r, h1, rfl⟩⟩
theorem put_DT (M : List (List Nat)) (r : List Nat) : dPut (DT M) (tup r) (.d (.bool true)) = DT (if r ∈ M then M else M ++ [r]) := by
  unfold dPut
  rw [has_DT]
  by_cases hm : r ∈ M
  · rw [if_pos hm, decide_eq_true hm, if_pos rfl]
    unfold DT
    rw [List.map_map]
    refine List.map_congr_left fun x hx => ?_
    simp only [Function.comp]
    split <;> rfl
  · rw [if_neg hm, decide_eq_false hm, if_neg (by simp)]
    unfold DT
    rw [List.map_append]
    rfl
/-- a dict behind s, its keys those of T -/
def DS (s : Sto) (T : List (List Nat)) (s' : Sto) : Prop := ∃ M : List (List Nat), M.Nodup ∧ (∀ r, r ∈ M ↔ r ∈ T) ∧ s' = s ++ [.dic (DT M)]
theorem DS.len {s s' : Sto} {T : List (List Nat)} (h : DS s T s') : s'.length = s.length + 1 := by
  obtain ⟨M, _, _, rfl⟩ := h
  simp
theorem DS.put {s s' : Sto} {T : List (List Nat)} (h : DS s T s') (hT : T.length ≤ 10000) (r : List Nat) : Rc (putF s' (.r s.length) (.d (tup r)) (.d (.bool true))) fun s4 => DS s (T ++ [r]) s4 := by
  obtain ⟨M, nd, hm, rfl⟩ := h
  have hl : M.length ≤ T.length := nodup_le nd fun x hx => (hm x).mp hx
  have hp := putF_k (s := s ++ [.dic (DT M)]) (j := s.length) (kvs := DT M) (xs := nt r) (d := .d (.bool true)) (by simp) (key_nt r) (by simp [DT, lim]; omega)
  rw [show PyData.tuple (nt r) = tup r from rfl, put_DT, set_last] at hp
  rw [hp, Rc_some]
  refine ⟨_, ?_, fun x => ?_, rfl⟩
  · split
    · exact nd
    · rename_i hn
      rw [List.nodup_append]
      exact ⟨nd, by simp, fun a ha b hb => by simp at hb; subst hb; exact fun e => hn (e ▸ ha)⟩
  · split
    · rename_i hin
      rw [List.mem_append, ← hm, List.mem_singleton]
      exact ⟨.inl, fun h => h.elim id fun e => e ▸ hin⟩
    · rw [List.mem_append, List.mem_append, hm]
theorem srtOk_tup (M : List (List Nat)) : SrtOk (M.map tup) := by
  refine ⟨PySem.W.AllAlike.of fun a b => alike_nt a b, .inr fun d hd => ?_, fun d hd => ?_⟩
  · obtain ⟨a, _, rfl⟩ := List.mem_map.mp hd
    exact ⟨_, rfl⟩
  · obtain ⟨a, _, rfl⟩ := List.mem_map.mp hd
    have := depth_nt a
    exact Nat.le_trans this (by decide)
theorem dd_nodup : ∀ l : List PyData, (Z.dd l).Nodup
  | [] => List.nodup_nil
  | a :: l => by
    unfold Z.dd
    split
    · exact dd_nodup l
    · rename_i h
      exact List.nodup_cons.mpr ⟨fun hm => h (Z.dd_mem.mp hm), dd_nodup l⟩
end N

namespace N
open PySem L2 PyProof.Rows

theorem Mex.le {l : List Nat} {k : Nat} (h : Mex l k) : k ≤ l.length := by
  have := nodup_le (l := List.range k) (m := l) List.nodup_range fun x hx => h.1 x (List.mem_range.mp hx)
  simpa using this
/-- numbers of a row in the store -/
def cl (ns : List Nat) : Cell := .lst ((nt ns).map .d)
end N

namespace N
open PySem L2 PyProof.Rows

/-- what the walk over the heaps has met -/
structure FL (c hs : List Nat) (i : Nat) (met fine : Bool) : Prop where
  ok : fine = true → (∀ o, NewOf (rstC c) hs i o → sec (rstC c) true o = false) ∧ (met = true ↔ ∃ o, NewOf (rstC c) hs i o)
  no : fine = false → ∃ o ∈ opts (rstC c) hs, sec (rstC c) true o = true
theorem FL.val {c hs : List Nat} {met fine : Bool} (h : FL c hs hs.length met fine) : (met && fine) = sec (rstC c) true hs := by
  rw [sec_eq (rst := rstC c) (losing := true) (N := hs.sum) (fun n _ r hr => (rstC_sum hr).1) fun a ha => mem_le_sum ha]
  cases fine with
  | false =>
    obtain ⟨o, h1, h2⟩ := h.no rfl
    rw [if_neg (List.ne_nil_of_mem h1), Bool.and_false]
    symm
    rw [Bool.not_eq_false']
    exact List.any_eq_true.mpr ⟨o, h1, h2⟩
  | true =>
    obtain ⟨h1, h2⟩ := h.ok rfl
    rw [Bool.and_true]
    by_cases e : opts (rstC c) hs = []
    · rw [if_pos e]
      cases met with
      | false => rfl
      | true =>
        obtain ⟨o, ho⟩ := h2.mp rfl
        rw [newOf_all, e] at ho
        cases ho
    · rw [if_neg e]
      obtain ⟨o, ho⟩ := List.exists_mem_of_ne_nil _ e
      rw [h2.mpr ⟨o, newOf_all.mpr ho⟩]
      symm
      rw [Bool.not_eq_true', Bool.eq_false_iff]
      intro ha
      obtain ⟨o, h3, h4⟩ := List.any_eq_true.mp ha
      rw [h1 o (newOf_all.mpr h3)] at h4
      cases h4
theorem FL.skip {c hs : List Nat} {i : Nat} {met fine : Bool} (h : FL c hs i met fine) (e : fine = true → ∀ o, NewOf (rstC c) hs (i + 1) o ↔ NewOf (rstC c) hs i o) : FL c hs (i + 1) met fine := by
  refine ⟨fun hf => ?_, h.no⟩
  obtain ⟨h1, h2⟩ := h.ok hf
  exact ⟨fun o ho => h1 o ((e hf o).mp ho), h2.trans ⟨fun ⟨o, ho⟩ => ⟨o, (e hf o).mpr ho⟩, fun ⟨o, ho⟩ => ⟨o, (e hf o).mp ho⟩⟩⟩
theorem FL.stop {c hs : List Nat} {i : Nat} {met : Bool} {o : List Nat} (ho : o ∈ opts (rstC c) hs) (hs' : sec (rstC c) true o = true) : FL c hs i met false := ⟨fun h => (by cases h), fun _ => ⟨o, ho, hs'⟩⟩
theorem FL.go {c hs : List Nat} {i : Nat} {met : Bool} (h : FL c hs i met true) (hr : ∀ r ∈ lcD c (hs.getD i 0), sec (rstC c) true (plo hs i r) = false) : FL c hs (i + 1) (met || decide (0 < (lcD c (hs.getD i 0)).length)) true := by
  refine ⟨fun _ => ?_, fun h => (by cases h)⟩
  obtain ⟨h1, h2⟩ := h.ok rfl
  refine ⟨fun o ho => ?_, ?_⟩
  · rcases newOf_succ.mp ho with h | ⟨r, h, rfl⟩
    · exact h1 o h
    · exact hr r (mem_lcD.mpr h)
  · rw [Bool.or_eq_true, h2, decide_eq_true_eq]
    constructor
    · rintro (⟨o, ho⟩ | hp)
      · exact ⟨o, newOf_succ.mpr (.inl ho)⟩
      · obtain ⟨r, hr2⟩ := List.exists_mem_of_length_pos hp
        exact ⟨_, newOf_succ.mpr (.inr ⟨r, mem_lcD.mp hr2, rfl⟩)⟩
    · rintro ⟨o, ho⟩
      rcases newOf_succ.mp ho with h | ⟨r, h, rfl⟩
      · exact .inl ⟨o, h⟩
      · exact .inr (List.length_pos_of_mem (mem_lcD.mpr h))
end N

namespace N
open PySem L2 PyProof.Rows

end N

namespace N
open PySem L2 PyProof.Rows

end N

namespace N
open PySem L2 PyProof.Rows

end N

namespace N
open PySem L2 PyProof.Rows

theorem putF_n {s : Sto} {j k : Nat} {kvs : List (Key × D)} {d : D} (h : s[j]? = some (.dk kvs)) (hl : kvs.length < lim) : putF s (.r j) (.d (.int (k : Nat))) d = some (s.set j (.dk (kPut kvs (.inl (k : Nat)) d))) := by
  unfold putF
  simp only [h, keyOf]
  rw [if_pos hl]
end N

namespace N
open PySem L2 PyProof.Rows

section
variable {e : Lo} {s : Sto} {Q : D → Sto → Prop} {Qt : Bool → Sto → Prop}
@[simp] theorem R_chK (f g : Int → Int → Bool) (ma mb mc : ME) : R (chK f g ma mb mc e s) Qt ↔ R (ma e s) fun a s1 => match a with
  | .d (.int i) => R (mb e s1) fun b s2 => match b with
    | .d (.int j) => (f i j = true → R (mc e s2) fun c s3 => match c with
        | .d (.int k) => Qt (g j k) s3
        | _ => False) ∧ (f i j = false → Qt false s2)
    | _ => False
  | _ => False := by
  unfold chK
  rcases ma e s with _ | ⟨a, s1⟩
  · simp
  · rcases a with x | j
    · cases x <;> simp
      rename_i i
      rcases mb e s1 with _ | ⟨b, s2⟩
      · simp
      · rcases b with x | j
        · cases x <;> simp
          rename_i j
          cases hf : f i j
          · simp
          · simp
            rcases mc e s2 with _ | ⟨c, s3⟩
            · simp
            · rcases c with x | j
              · cases x <;> simp
              · simp
        · simp
    · simp
@[simp] theorem R_eCh (f g : Int → Int → Bool) (ma mb mc : ME) : R (eCh f g ma mb mc e s) Q ↔ R (chK f g ma mb mc e s) fun k s1 => Q (.d (.bool k)) s1 := by
  unfold eCh
  rcases chK f g ma mb mc e s with _ | ⟨k, s1⟩ <;> simp
end
end N

namespace N
open PySem L2 PyProof.Rows

end N

namespace N
open PySem L2 PyProof.Rows

end N

namespace N
open PySem L2 PyProof.Rows

end N

namespace N
open PySem L2 PyProof.Rows
open Z (Ext dpUp dpsUp dpsLen dpsGet DxO KyD DEn)
def isB (c : Bool) : D → Bool
  | .d (.bool b) => decide (b = c)
  | _ => false
def cIsB (neg : Bool) : FC := fun s a b => match b with
  | .d (.bool c) => some (if neg then !isB c a else isB c a)
  | _ => none
section
variable {s : Sto}
@[simp] theorem v_isB (a : D) (c : Bool) : cIsB false s a (.d (.bool c)) = some (isB c a) := rfl
@[simp] theorem v_isnB (a : D) (c : Bool) : cIsB true s a (.d (.bool c)) = some (!isB c a) := rfl
@[simp] theorem isB_b (b c : Bool) : isB c (.d (.bool b)) = decide (b = c) := rfl
end
end N

namespace N
open PySem L2 PyProof.Rows
open Z (Ext dpUp dpsUp dpsLen dpsGet DxO KyD DEn Dfn)
def sStop : MS := fun _ _ => none
theorem ns_stop {X : Cx} {st : Stmt} : NS X st sStop := fun e s fl e' s' b h hb => by cases h
section
variable {P : Program} {w : World} {A : Around} {E : Value → Shared → Prop} {s : Shared}
open Z (set0)
end
section
variable {X : Cx} {e : Expr} {m : ME} {pos p p2 q : Pos}
end

section
variable {P : Program} {w : World} {A : Around} {E : Value → Shared → Prop} {s : Shared}
end
section
variable {X : Cx} {a b c : Expr} {ta tb tc : TE} {pos p : Pos}
variable {x y : Str} {pa pb pc pd px py : Pos} {ja jb : Nat}
end
end N

namespace N
open PySem L2 PyProof.Rows

def mis (l : List Nat) : Bool := if l.all (fun a => decide (a < 2)) = true then decide (l.sum % 2 = 1) else decide (xr l = 0)
def asc3 (x : Nat) : List Nat := if x < 2 then [0, 1] else [0, 1, x]
def put (hs : List Nat) (i k : Nat) : List Nat := hs.take i ++ [k] ++ hs.drop (i + 1)
/-- the sizes that may be left of the heap i by a move that wins -/
def good (hs : List Nat) (i : Nat) : List Nat := (asc3 (hs.getD i 0 ^^^ xr hs)).filter fun k => decide (k < hs.getD i 0) && mis (put hs i k)
end N

namespace N
open PySem L2 PyProof.Rows

end N

namespace N
open PySem L2 PyProof.Rows

end N

namespace N
open PySem L2 PyProof.Rows
open Z (Ext dpUp dpsUp dpsLen dpsGet DxO KyD DEn Cl cut offv bl Dfn)

structure PrE where
  T : Addr
  b : Addr
  k : PyData
  v : V
def EntOk : List PrE → List DEn → Prop
  | [], [] => True
  | p :: ps, x :: xs => (x.1 = p.k ∧ x.2.1 = p.b ∧ RelV p.v x.2.2) ∧ EntOk ps xs
  | _, _ => False
theorem EntOk.len : ∀ {ps : List PrE} {xs : List DEn}, EntOk ps xs → xs.length = ps.length
  | [], [], _ => rfl
  | _ :: _, _ :: _, ⟨_, h⟩ => by rw [List.length_cons, List.length_cons, EntOk.len h]
  | [], _ :: _, h => h.elim
  | _ :: _, [], h => h.elim
section
variable {X : Cx} {pins : List (Addr × Obj)} {σ : L2.St} {H : Hp} {s : Shared}
end

section
variable {X : Cx} {B : Ba} {w : W} {H : Hp}
end

section
variable {X : Cx} {pins : List (Addr × Obj)} {σ : L2.St} {H : Hp} {s : Shared}
end
theorem KR.keys {B : Ba} {w : W} : ∀ {xs : List (Key × V)} {kvs : List (Key × D)}, KR B w xs kvs → xs.map (·.1) = kvs.map (·.1)
  | [], [], _ => rfl
  | e :: xs, kv :: kvs, ⟨h1, h2⟩ => by rw [List.map_cons, List.map_cons, h1.1, KR.keys h2]
  | [], _ :: _, h => h.elim
  | _ :: _, [], h => h.elim
section
variable {X : Cx}
end

section
variable {X : Cx} {pins : List (Addr × Obj)} {σ : L2.St} {H : Hp} {s : Shared}
end
section
variable {X : Cx} {B : Ba} {w : W} {H : Hp}
variable {ex a : Expr} {es : List Expr} {ma me : ME} {pos : Pos}
end
end N

namespace N
open PySem L2 PyProof.Rows
open Z (Ext dpUp dpsUp dpsLen dpsGet DxO KyD DEn Cl cut offv bl Dfn)

section
variable {X : Cx} {pins : List (Addr × Obj)} {σ : L2.St} {H : Hp} {s : Shared}
end

section
variable {K : PySem.W.Frag} {F : Hp} {a : Addr} {o : Obj} {φ : Heap → Prop}
end
section
variable {B : Ba} {w : W} {s : Sto} {H : Hp} {a : Addr} {o : Obj} {φ : Heap → Prop}
end
section
variable {X : Cx} {ex a b c tg iter elt : Expr} {es ifs elts : List Expr} {st : Stmt} {body : List Stmt} {m ma mb : ME} {M : MS} {pos p : Pos}
end
end N

namespace Z
open PySem L2 PyProof.Rows

section
variable {P : Program} {w : World} {A : Around} {E : Value → Shared → Prop} {s : Shared}
end
section
variable {X : Cx} {pins : List (Addr × Obj)} {σ : L2.St} {H : Hp} {s : Shared}
end
end Z
namespace N
open PySem L2 PyProof.Rows
open Z (Ext dpUp dpsUp dpsLen dpsGet DxO KyD DEn Cl cut offv bl Dfn)
section
variable {X : Cx} {ex a b c tg iter tg1 iter1 elt e : Expr} {es : List Expr} {m ma mb mc : ME} {pos p q p2 tpos : Pos}
end

section
variable {X : Cx} {tg : Expr}
variable {a b : Expr} {ms : MA} {p pos : Pos}
end
end N

namespace N
open PySem L2 PyProof.Rows
open Z (Ext dpUp dpsUp dpsLen dpsGet DxO KyD DEn Cl cut offv bl Dfn)

abbrev MPP := Lo → Sto → Option (List (Key × D) × Sto)
section
variable {X : Cx} {pos : Pos} {keys : List (Option Expr)} {values : List Expr} {k v : Expr} {m mv : ME} {mr : MPP}
end
end N

namespace N
open PySem L2 PyProof.Rows
open Z (Ext dpUp dpsUp dpsLen dpsGet DxO KyD DEn Cl cut offv bl Dfn)

section
variable {X : Cx} {pins : List (Addr × Obj)} {σ : L2.St} {H : Hp} {s : Shared}
end
end N

namespace N
open PySem L2 PyProof.Rows

section
variable {X : Cx} {pos : Pos}
end
end N

namespace N
open PySem L2 PyProof.Rows

noncomputable def b__law_box : MS := (sSeq (sRet (eLst true (aCons (eCall (bList true) (aCons (eSl false (eVar 0) oNone (oSome (eC (.int 63)))) aNil)) (aCons (eC (.int 0)) (aCons (eBin (oAdd true) (eC (.int 4711)) (eCall bLen (aCons (eVar 0) aNil))) aNil)))))
  sNil)
noncomputable def m__law_box : FA := fnR 1 1 true b__law_box
noncomputable def b__law_load : MS := (sSeq (sSet 1 (eIt (eVar 0) (eC (.int 0))))
  (sSeq (sIf (tCmp cGt (eCall bLen (aCons (eVar 1) aNil)) (eC (.int 0))) (sSeq (sSet 2 (eCall bInt (aCons (eMeth fPopAt (eVar 1) (aCons (eC (.int 0)) aNil)) aNil)))
  (sSeq (sSet 3 (eIte (tCmp cGe (eVar 2) (eC (.int 0))) (eBin oMul (eC (.int 2)) (eVar 2)) (eBin oSub (eBin oMul (eNeg (eC (.int 2))) (eVar 2)) (eC (.int 1)))))
  (sSeq (sIf (tCmp cGe (eVar 3) (eC (.int 1000000000000000000))) (sSeq (sRet (eVar 3))
  sNil) sNil)
  (sSeq (sPu (eVar 0) (eC (.int 2)) (eBin oMod (eCall bInt (aCons (eBin (oAdd false) (eBin (oAdd false) (eBin oMul (eIt (eVar 0) (eC (.int 2))) (eC (.int 69621))) (eBin oMul (eVar 3) (eC (.int 48271)))) (eC (.int 11))) aNil)) (eC (.int 2147483647))))
  sNil)))) sNil)
  (sSeq (sSet 4 (eBin oMod (eCall bInt (aCons (eBin (oAdd false) (eBin oMul (eIt (eVar 0) (eC (.int 2))) (eC (.int 48271))) (eC (.int 17))) aNil)) (eC (.int 2147483629))))
  (sSeq (sSet 5 (eBin oMod (eCall bInt (aCons (eBin (oAdd false) (eBin oMul (eVar 4) (eC (.int 69621))) (eC (.int 5))) aNil)) (eC (.int 2147483587))))
  (sSeq (sPu (eVar 0) (eC (.int 2)) (eBin oMod (eCall bInt (aCons (eBin (oAdd false) (eBin oMul (eVar 5) (eC (.int 40692))) (eC (.int 3))) aNil)) (eC (.int 2147483563))))
  (sSeq (sRet (eBin (oAdd false) (eBin (oAdd false) (eBin oMul (eVar 4) (eC (.int 4611686014132420609))) (eBin oMul (eVar 5) (eC (.int 2147483647)))) (eIt (eVar 0) (eC (.int 2)))))
  sNil))))))
noncomputable def m__law_load : FA := fnR 1 6 false b__law_load
noncomputable def b__law_draw : MS := (sSeq (sIf (tCmp cLt (eIt (eVar 0) (eC (.int 1))) (eVar 1)) (sSeq (sPu (eVar 0) (eC (.int 1)) (eCall m__law_load (aCons (eVar 0) aNil)))
  sNil) sNil)
  (sSeq (sSet 2 (eBin oMod (eCall bInt (aCons (eIt (eVar 0) (eC (.int 1))) aNil)) (eVar 1)))
  (sSeq (sPu (eVar 0) (eC (.int 1)) (eBin oDiv (eIt (eVar 0) (eC (.int 1))) (eVar 1)))
  (sSeq (sRet (eVar 2))
  sNil))))
noncomputable def m__law_draw : FA := fnR 2 3 false b__law_draw

def bx (xs : List Int) (p q : Int) (rest : Sto) : Sto := .lst (xs.map fun i => .d (.int i)) :: .lst [.r 0, .d (.int p), .d (.int q)] :: rest
def BS (rest s : Sto) : Prop := ∃ xs p q, s = bx xs p q rest
section
variable {xs : List Int} {p q : Int} {rest : Sto}
theorem bx_0 : itF (bx xs p q rest) (.r 1) (.d (.int 0)) = some (.r 0) := itF_l rfl rfl
theorem bx_1 : itF (bx xs p q rest) (.r 1) (.d (.int 1)) = some (.d (.int p)) := itF_l rfl rfl
theorem bx_2 : itF (bx xs p q rest) (.r 1) (.d (.int 2)) = some (.d (.int q)) := itF_l rfl rfl
theorem bx_len : bLen (bx xs p q rest) [.r 0] = some (.d (.int xs.length), bx xs p q rest) := by
  rw [len_r (s := bx xs p q rest) (j := 0) (ds := xs.map fun i => .d (.int i)) rfl, List.length_map]
theorem xb_1 {v : Int} : putF (bx xs p q rest) (.r 1) (.d (.int 1)) (.d (.int v)) = some (bx xs v q rest) := putF_l (k := 1) (ds := [.r 0, .d (.int p), .d (.int q)]) rfl rfl
theorem xb_2 {v : Int} : putF (bx xs p q rest) (.r 1) (.d (.int 2)) (.d (.int v)) = some (bx xs p v rest) := putF_l (k := 2) (ds := [.r 0, .d (.int p), .d (.int q)]) rfl rfl
theorem bx_c0 : (bx xs p q rest)[0]? = some (.lst (xs.map fun i => .d (.int i))) := rfl
theorem BS.len {s : Sto} (h : BS rest s) : s.length = 2 + rest.length := by
  obtain ⟨xs, p, q, rfl⟩ := h
  simp [bx]; omega
theorem bx_trim {ys : List Int} {p' q' : Int} : trim (bx xs p q rest) (bx ys p' q' rest) = bx ys p' q' rest := trim_len (by simp [bx])
theorem v_pop0 {s : Sto} {y : D} {ys : List D} {Qm : List D → D → Prop} (h : Qm ys y) : Rm (fPopAt s (y :: ys) [.d (.int 0)]) Qm := by
  refine ⟨ys, y, ?_, h⟩
  have e : seqIndex? 0 (y :: ys).length = some 0 := by
    unfold seqIndex?
    simp
  unfold fPopAt
  simp only [e]
  rfl
theorem bx_pop {i : Int} : List.set (bx (i :: xs) p q rest) 0 (Cell.lst (xs.map fun i => D.d (.int i))) = bx xs p q rest := rfl
end
theorem load_ok (xs : List Int) (p q : Int) (rest : Sto) : R (m__law_load (bx xs p q rest) [.r 1]) fun x s' => ∃ (v : Int) (ys : List Int) (q' : Int), x = .d (.int v) ∧ s' = bx ys p q' rest := by
  unfold m__law_load b__law_load
  cases xs with
  | nil =>
    simp [bx_0, bx_1, bx_2, bx_len, Rs_pu, R_it, R_fn, xb_1, xb_2, v_mod, v_mulR, R_retd, bx_trim]
    exact ⟨_, _, rfl⟩
  | cons i xs =>
    simp [bx_0, bx_1, bx_2, bx_len, Rs_pu, R_it, R_fn, xb_1, xb_2, v_mod, v_mulR, R_retd, bx_trim, bx_c0]
    refine v_pop0 ?_
    rw [bx_pop]
    simp [bx_0, bx_1, bx_2, bx_len, xb_1, xb_2, v_mod, v_mulR, v_mulL, R_retd, bx_trim]
    exact ⟨fun _ => ⟨fun _ => ⟨_, _, rfl⟩, fun _ => ⟨_, _, rfl⟩⟩, fun _ => ⟨fun _ => ⟨_, _, rfl⟩, fun _ => ⟨_, _, rfl⟩⟩⟩
theorem draw_ok {rest s : Sto} {m : Int} (h : BS rest s) (h0 : 0 < m) (h1 : m < 2 ^ 256) : R (m__law_draw s [.r 1, .d (.int m)]) fun x s' => ∃ d : Int, x = .d (.int d) ∧ 0 ≤ d ∧ d < m ∧ BS rest s' := by
  obtain ⟨xs, p, q, rfl⟩ := h
  have M (q' : Int) : 0 ≤ q' % m ∧ q' % m < m := ⟨Int.emod_nonneg _ (by omega), Int.emod_lt_of_pos _ h0⟩
  have T (ys : List Int) (p' q' : Int) : BS rest (bx ys p' q' rest) := ⟨ys, p', q', rfl⟩
  unfold m__law_draw b__law_draw
  simp [bx_1, Rs_pu, R_it, R_fn]
  refine ⟨fun _ => ?_, fun _ => ?_⟩
  · refine (load_ok xs p q rest).imp fun x s' ⟨v, ys, q', e1, e2⟩ => ?_
    subst e1 e2
    simp [bx_1, xb_1, v_mod h0, v_div h0 h1, R_retd, bx_trim, M, T]
  · simp [bx_1, xb_1, v_mod h0, v_div h0 h1, R_retd, bx_trim, M, T]
theorem R_draw {rest s : Sto} {m : Nat} {Q : D → Sto → Prop} (h : BS rest s) (h0 : 0 < m) (h1 : m < 2 ^ 256) (q : ∀ (d : Nat) s', d < m → BS rest s' → Q (.d (.int (d : Nat))) s') : R (m__law_draw s [.r 1, .d (.int (m : Nat))]) Q := by
  refine (draw_ok h (m := (m : Int)) (by omega) (by omega)).imp fun x s' ⟨d, e, h2, h3, h4⟩ => ?_
  subst e
  have := q d.toNat s' (by omega) h4
  rwa [Int.toNat_of_nonneg h2] at this
theorem R_box {ns : List Int} {Q : D → Sto → Prop} (q : ∀ s, BS [] s → Q (.r 1) s) : R (m__law_box [] [.d (.list (ns.map .int))]) Q := by
  unfold m__law_box b__law_box
  simp [R_fn, asL, cutD_map, data_mapf, v_list, len_l, ret_own, lim]
  exact q _ ⟨cutD ns none (some 63), 0, 4711 + ns.length, by simp [bx]⟩
theorem BS.app {rest s : Sto} (h : BS rest s) (g : Sto) : BS (rest ++ g) (s ++ g) := by
  obtain ⟨xs, p, q, rfl⟩ := h
  exact ⟨xs, p, q, rfl⟩
theorem BS.get {rest s : Sto} (h : BS rest s) (j : Nat) : s[j + 2]? = rest[j]? := by
  obtain ⟨xs, p, q, rfl⟩ := h
  rfl
theorem BS.put {rest s : Sto} (h : BS rest s) (j : Nat) (c : Cell) : BS (rest.set j c) (s.set (j + 2) c) := by
  obtain ⟨xs, p, q, rfl⟩ := h
  exact ⟨xs, p, q, rfl⟩
end N

namespace NF
def E : Nat → Type
  | 0 => Bool
  | n + 1 => E n × E n
def zr : (n : Nat) → E n
  | 0 => false
  | n + 1 => (zr n, zr n)
def on : (n : Nat) → E n
  | 0 => true
  | n + 1 => (zr n, on n)
/-- the element that is half of the next power -/
def cc : (n : Nat) → E n
  | 0 => true
  | n + 1 => (cc n, zr n)
def ad : {n : Nat} → E n → E n → E n
  | 0, a, b => Bool.xor a b
  | _ + 1, a, b => (ad a.1 b.1, ad a.2 b.2)
def ml : {n : Nat} → E n → E n → E n
  | 0, a, b => Bool.and a b
  | n + 1, a, b => (ad (ad (ml a.1 b.1) (ml a.1 b.2)) (ml a.2 b.1), ad (ml a.2 b.2) (ml (ml a.1 b.1) (cc n)))
section
variable {n : Nat}
theorem ad_comm : ∀ {n : Nat} (a b : E n), ad a b = ad b a
  | 0, a, b => Bool.xor_comm a b
  | _ + 1, a, b => Prod.ext (ad_comm a.1 b.1) (ad_comm a.2 b.2)
theorem ad_assoc : ∀ {n : Nat} (a b c : E n), ad (ad a b) c = ad a (ad b c)
  | 0, a, b, c => Bool.xor_assoc a b c
  | _ + 1, a, b, c => Prod.ext (ad_assoc a.1 b.1 c.1) (ad_assoc a.2 b.2 c.2)
theorem ad_self : ∀ {n : Nat} (a : E n), ad a a = zr n
  | 0, a => Bool.xor_self a
  | _ + 1, a => Prod.ext (ad_self a.1) (ad_self a.2)
theorem zr_ad : ∀ {n : Nat} (a : E n), ad (zr n) a = a
  | 0, a => Bool.false_xor a
  | _ + 1, a => Prod.ext (zr_ad a.1) (zr_ad a.2)
theorem ad_zr (a : E n) : ad a (zr n) = a := by rw [ad_comm, zr_ad]
theorem ad_lc (a b c : E n) : ad a (ad b c) = ad b (ad a c) := by rw [← ad_assoc, ad_comm a b, ad_assoc]
theorem ad_can (a b : E n) : ad a (ad a b) = b := by rw [← ad_assoc, ad_self, zr_ad]
theorem ml_comm : ∀ {n : Nat} (a b : E n), ml a b = ml b a
  | 0, a, b => Bool.and_comm a b
  | n + 1, a, b => by
    refine Prod.ext ?_ ?_
    · show ad (ad (ml a.1 b.1) (ml a.1 b.2)) (ml a.2 b.1) = ad (ad (ml b.1 a.1) (ml b.1 a.2)) (ml b.2 a.1)
      rw [ml_comm b.1 a.1, ml_comm b.1 a.2, ml_comm b.2 a.1, ad_assoc, ad_assoc, ad_comm (ml a.1 b.2)]
    · show ad (ml a.2 b.2) (ml (ml a.1 b.1) (cc n)) = ad (ml b.2 a.2) (ml (ml b.1 a.1) (cc n))
      rw [ml_comm b.2 a.2, ml_comm b.1 a.1]
theorem ml_ad : ∀ {n : Nat} (a b c : E n), ml a (ad b c) = ad (ml a b) (ml a c)
  | 0, a, b, c => by cases a <;> cases b <;> cases c <;> rfl
  | n + 1, a, b, c => by
    refine Prod.ext ?_ ?_
    · show ad (ad (ml a.1 (ad b.1 c.1)) (ml a.1 (ad b.2 c.2))) (ml a.2 (ad b.1 c.1)) = ad (ad (ad (ml a.1 b.1) (ml a.1 b.2)) (ml a.2 b.1)) (ad (ad (ml a.1 c.1) (ml a.1 c.2)) (ml a.2 c.1))
      simp only [ml_ad a.1, ml_ad a.2, ad_assoc, ad_lc, ad_comm]
    · show ad (ml a.2 (ad b.2 c.2)) (ml (ml a.1 (ad b.1 c.1)) (cc n)) = ad (ad (ml a.2 b.2) (ml (ml a.1 b.1) (cc n))) (ad (ml a.2 c.2) (ml (ml a.1 c.1) (cc n)))
      rw [ml_ad a.1, ml_ad a.2, ml_comm (ad _ _) (cc n), ml_ad (cc n), ml_comm (cc n), ml_comm (cc n)]
      simp only [ad_assoc, ad_lc, ad_comm]
theorem ad_ml (a b c : E n) : ml (ad b c) a = ad (ml b a) (ml c a) := by rw [ml_comm, ml_ad, ml_comm a, ml_comm a]
theorem ml_assoc : ∀ {n : Nat} (a b c : E n), ml (ml a b) c = ml a (ml b c)
  | 0, a, b, c => Bool.and_assoc a b c
  | n + 1, a, b, c => by
    have lc : ∀ x y z : E n, ml x (ml y z) = ml y (ml x z) := fun x y z => by rw [← ml_assoc, ml_comm x y, ml_assoc]
    refine Prod.ext ?_ ?_
    · show ad (ad (ml (ad (ad (ml a.1 b.1) (ml a.1 b.2)) (ml a.2 b.1)) c.1) (ml (ad (ad (ml a.1 b.1) (ml a.1 b.2)) (ml a.2 b.1)) c.2)) (ml (ad (ml a.2 b.2) (ml (ml a.1 b.1) (cc n))) c.1)
        = ad (ad (ml a.1 (ad (ad (ml b.1 c.1) (ml b.1 c.2)) (ml b.2 c.1))) (ml a.1 (ad (ml b.2 c.2) (ml (ml b.1 c.1) (cc n))))) (ml a.2 (ad (ad (ml b.1 c.1) (ml b.1 c.2)) (ml b.2 c.1)))
      simp only [ml_ad, ad_ml, ml_assoc, lc, ml_comm, ad_assoc, ad_lc, ad_comm]
    · show ad (ml (ad (ml a.2 b.2) (ml (ml a.1 b.1) (cc n))) c.2) (ml (ml (ad (ad (ml a.1 b.1) (ml a.1 b.2)) (ml a.2 b.1)) c.1) (cc n))
        = ad (ml a.2 (ad (ml b.2 c.2) (ml (ml b.1 c.1) (cc n)))) (ml (ml a.1 (ad (ad (ml b.1 c.1) (ml b.1 c.2)) (ml b.2 c.1))) (cc n))
      simp only [ml_ad, ad_ml, ml_assoc, lc, ml_comm, ad_assoc, ad_lc, ad_comm]
theorem ml_zr : ∀ {n : Nat} (a : E n), ml a (zr n) = zr n
  | 0, a => Bool.and_false a
  | n + 1, a => by
    refine Prod.ext ?_ ?_
    · show ad (ad (ml a.1 (zr n)) (ml a.1 (zr n))) (ml a.2 (zr n)) = zr n
      rw [ml_zr, ml_zr, ad_self, ad_self]
    · show ad (ml a.2 (zr n)) (ml (ml a.1 (zr n)) (cc n)) = zr n
      rw [ml_zr, ml_zr, ml_comm, ml_zr, ad_self]
theorem zr_ml (a : E n) : ml (zr n) a = zr n := by rw [ml_comm, ml_zr]
theorem ml_on : ∀ {n : Nat} (a : E n), ml a (on n) = a
  | 0, a => Bool.and_true a
  | n + 1, a => by
    refine Prod.ext ?_ ?_
    · show ad (ad (ml a.1 (zr n)) (ml a.1 (on n))) (ml a.2 (zr n)) = a.1
      rw [ml_zr, ml_zr, ml_on, ad_zr, zr_ad]
    · show ad (ml a.2 (on n)) (ml (ml a.1 (zr n)) (cc n)) = a.2
      rw [ml_zr, zr_ml, ml_on, ad_zr]
theorem on_ml (a : E n) : ml (on n) a = a := by rw [ml_comm, ml_on]
theorem on_ne : ∀ n : Nat, on n ≠ zr n
  | 0 => fun h => Bool.noConfusion h
  | n + 1 => fun h => on_ne n (congrArg Prod.snd h)
def sq (a : E n) : E n := ml a a
theorem sq_ad (a b : E n) : sq (ad a b) = ad (sq a) (sq b) := by
  unfold sq
  rw [ml_ad, ad_ml, ad_ml, ml_comm b a, ad_assoc, ad_can]
theorem sq_ml (a b : E n) : sq (ml a b) = ml (sq a) (sq b) := by
  unfold sq
  rw [ml_assoc, ml_assoc, ← ml_assoc b a b, ml_comm b a, ml_assoc]
theorem sq_zr : sq (zr n) = zr n := ml_zr _
theorem sq_on : sq (on n) = on n := ml_on _
def fr : Nat → {n : Nat} → E n → E n
  | 0, _, a => a
  | k + 1, _, a => sq (fr k a)
theorem fr_ad : ∀ (k : Nat) (a b : E n), fr k (ad a b) = ad (fr k a) (fr k b)
  | 0, _, _ => rfl
  | k + 1, a, b => by show sq (fr k _) = ad (sq _) (sq _); rw [fr_ad k, sq_ad]
theorem fr_ml : ∀ (k : Nat) (a b : E n), fr k (ml a b) = ml (fr k a) (fr k b)
  | 0, _, _ => rfl
  | k + 1, a, b => by show sq (fr k _) = ml (sq _) (sq _); rw [fr_ml k, sq_ml]
theorem fr_add (k : Nat) : ∀ (j : Nat) (a : E n), fr (j + k) a = fr j (fr k a)
  | 0, a => by rw [Nat.zero_add]; rfl
  | j + 1, a => by rw [Nat.succ_add]; show sq _ = sq _; rw [fr_add k j]
theorem fr_sq : ∀ (k : Nat) (a : E n), fr k (sq a) = sq (fr k a)
  | 0, _ => rfl
  | k + 1, a => congrArg sq (fr_sq k a)
/-- the sum of the first conjugates -/
def tr : Nat → {n : Nat} → E n → E n
  | 0, n, _ => zr n
  | k + 1, _, a => ad (tr k a) (fr k a)
theorem tr_ad : ∀ (k : Nat) (a b : E n), tr k (ad a b) = ad (tr k a) (tr k b)
  | 0, _, _ => (ad_self _).symm
  | k + 1, a, b => by
    show ad (tr k _) (fr k _) = ad (ad _ _) (ad _ _)
    rw [tr_ad k, fr_ad k]
    simp only [ad_assoc, ad_lc, ad_comm]
theorem tr_sq : ∀ (k : Nat) (a : E n), ad (tr k (sq a)) a = ad (tr k a) (fr k a)
  | 0, _ => rfl
  | k + 1, a => by
    show ad (ad (tr k _) (fr k (sq a))) a = ad (ad (tr k a) (fr k a)) (sq (fr k a))
    rw [← tr_sq k a, fr_sq, ad_assoc, ad_assoc, ad_comm a]
theorem tr_add (k : Nat) : ∀ (j : Nat) (a : E n), tr (j + k) a = ad (tr k a) (tr j (fr k a))
  | 0, a => by rw [Nat.zero_add]; exact (ad_zr _).symm
  | j + 1, a => by
    rw [Nat.succ_add]
    show ad (tr (j + k) a) (fr (j + k) a) = ad _ (ad _ _)
    rw [tr_add k j, fr_add, ad_assoc]
theorem sq_tr : ∀ (k : Nat) (a : E n), sq (tr k a) = tr k (sq a)
  | 0, _ => sq_zr
  | k + 1, a => by
    show sq (ad (tr k a) (fr k a)) = ad (tr k (sq a)) (fr k (sq a))
    rw [sq_ad, sq_tr k, fr_sq]
def lo (a : E n) : E (n + 1) := (zr n, a)
theorem lo_ml (a b : E n) : ml (lo a) (lo b) = lo (ml a b) := by
  refine Prod.ext ?_ ?_
  · show ad (ad (ml (zr n) (zr n)) (ml (zr n) b)) (ml a (zr n)) = zr n
    rw [zr_ml, zr_ml, ml_zr, ad_self, ad_self]
  · show ad (ml a b) (ml (ml (zr n) (zr n)) (cc n)) = ml a b
    rw [zr_ml, zr_ml, ad_zr]
theorem lo_ad (a b : E n) : ad (lo a) (lo b) = lo (ad a b) := Prod.ext (ad_self _) rfl
theorem fr_lo : ∀ (k : Nat) (a : E n), fr k (lo a) = lo (fr k a)
  | 0, _ => rfl
  | k + 1, a => by show sq _ = lo (sq _); rw [fr_lo k]; exact lo_ml _ _
theorem tr_lo : ∀ (k : Nat) (a : E n), tr k (lo a) = lo (tr k a)
  | 0, _ => rfl
  | k + 1, a => by show ad _ _ = lo (ad _ _); rw [tr_lo k, fr_lo k, lo_ad]
def xx (n : Nat) : E (n + 1) := (on n, zr n)
theorem hi_lo (a : E (n + 1)) : a = ad (ml (lo a.1) (xx n)) (lo a.2) := by
  refine Prod.ext ?_ ?_
  · show a.1 = ad (ad (ad (ml (zr n) (on n)) (ml (zr n) (zr n))) (ml a.1 (on n))) (zr n)
    rw [zr_ml, zr_ml, ml_on, ad_self, zr_ad, ad_zr]
  · show a.2 = ad (ad (ml a.1 (zr n)) (ml (ml (zr n) (on n)) (cc n))) a.2
    rw [zr_ml, zr_ml, ml_zr, ad_self, zr_ad]
theorem sq_xx : sq (xx n) = ad (xx n) (lo (cc n)) := by
  refine Prod.ext ?_ ?_
  · show ad (ad (ml (on n) (on n)) (ml (on n) (zr n))) (ml (zr n) (on n)) = ad (on n) (zr n)
    rw [ml_zr, zr_ml, ml_on, ad_zr, ad_zr]
  · show ad (ml (zr n) (zr n)) (ml (ml (on n) (on n)) (cc n)) = ad (zr n) (cc n)
    rw [ml_zr, ml_on, on_ml]
theorem fr_xx : ∀ k : Nat, fr k (xx n) = ad (xx n) (lo (tr k (cc n)))
  | 0 => (ad_zr (xx n)).symm
  | k + 1 => by
    show sq (fr k (xx n)) = _
    rw [fr_xx k, sq_ad, sq_xx, ad_assoc]
    refine congrArg (ad (xx n)) ?_
    show ad (lo (cc n)) (ml (lo (tr k (cc n))) (lo (tr k (cc n)))) = _
    rw [lo_ml, lo_ad]
    refine congrArg lo ?_
    show ad (cc n) (sq (tr k (cc n))) = ad (tr k (cc n)) (fr k (cc n))
    rw [sq_tr, ad_comm, tr_sq]
/-- 2 ^ n squarings change nothing; the trace of the element cc is 1 -/
theorem main : ∀ n : Nat, (∀ a : E n, fr (2 ^ n) a = a) ∧ tr (2 ^ n) (cc n) = on n
  | 0 => ⟨fun a => Bool.and_self a, rfl⟩
  | n + 1 => by
    obtain ⟨h1, h2⟩ := main n
    have e : 2 ^ (n + 1) = 2 ^ n + 2 ^ n := by rw [Nat.pow_succ]; omega
    have half : ∀ a : E (n + 1), fr (2 ^ n) a = ad a (lo a.1) := fun a => by
      conv => lhs; rw [hi_lo a]
      rw [fr_ad, fr_ml, fr_lo, fr_lo, h1, h1, fr_xx, h2, ml_ad, lo_ml, ml_on]
      rw [ad_assoc, ad_comm (lo a.1), ← ad_assoc, ← hi_lo a]
    have half1 : ∀ a : E (n + 1), (ad a (lo a.1)).1 = a.1 := fun a => ad_zr _
    refine ⟨fun a => ?_, ?_⟩
    · rw [e, fr_add, half, half, half1, ad_assoc, ad_self, ad_zr]
    · rw [e, tr_add, half, tr_ad, ← ad_assoc, ad_self, zr_ad, tr_lo]
      show lo (tr (2 ^ n) (cc n)) = _
      rw [h2]
      rfl
theorem sq_inj {a b : E n} (h : sq a = sq b) : a = b := by
  have hp := Nat.two_pow_pos n
  have e : 2 ^ n = (2 ^ n - 1) + 1 := by omega
  have : fr (2 ^ n) a = fr (2 ^ n) b := by
    rw [e, fr_add, fr_add]
    show fr _ (sq a) = fr _ (sq b)
    rw [h]
  rwa [(main n).1, (main n).1] at this
theorem ad_eq {a b : E n} (h : ad a b = zr n) : a = b := by
  have := congrArg (ad a) h
  rw [ad_can, ad_zr] at this
  exact this.symm
/-- everything but nought has an inverse -/
theorem inv : ∀ (n : Nat) (a : E n), a ≠ zr n → ∃ b, ml a b = on n
  | 0, a, h => by cases a with
    | false => exact absurd rfl h
    | true => exact ⟨true, rfl⟩
  | n + 1, a, h => by
    have nm : ml a (ad a (lo a.1)) = lo (ad (ad (sq a.2) (ml a.2 a.1)) (ml (sq a.1) (cc n))) := by
      refine Prod.ext ?_ ?_
      · show ad (ad (ml a.1 (ad a.1 (zr n))) (ml a.1 (ad a.2 a.1))) (ml a.2 (ad a.1 (zr n))) = zr n
        rw [ad_zr, ml_ad, ml_comm a.2 a.1, ad_comm (ml a.1 a.2), ← ad_assoc, ad_self, zr_ad, ad_self]
      · show ad (ml a.2 (ad a.2 a.1)) (ml (ml a.1 (ad a.1 (zr n))) (cc n)) = _
        rw [ad_zr, ml_ad]
        rfl
    have nz : ad (ad (sq a.2) (ml a.2 a.1)) (ml (sq a.1) (cc n)) ≠ zr n := fun hz => by
      by_cases h0 : a.1 = zr n
      · rw [h0, ml_zr, sq_zr, zr_ml, ad_zr, ad_zr] at hz
        exact h (Prod.ext h0 (sq_inj (hz.trans sq_zr.symm)))
      · obtain ⟨g, hg⟩ := inv n a.1 h0
        have e := congrArg (ml (sq g)) hz
        rw [ml_zr, ml_ad, ml_ad, ← sq_ml, ← ml_assoc (sq g) (sq a.1), ← sq_ml, ml_comm g a.1, hg, sq_on, on_ml] at e
        have e2 : ml (sq g) (ml a.2 a.1) = ml g a.2 := by
          unfold sq
          rw [ml_comm a.2 a.1, ml_assoc, ← ml_assoc g a.1, ml_comm g a.1, hg, on_ml]
        rw [e2] at e
        have e3 := ad_eq e
        have t1 := (main n).2
        rw [← e3, tr_ad] at t1
        have t2 := tr_sq (2 ^ n) (ml g a.2)
        rw [(main n).1] at t2
        have t3 : tr (2 ^ n) (sq (ml g a.2)) = tr (2 ^ n) (ml g a.2) := by
          have := congrArg (fun z => ad z (ml g a.2)) t2
          simp only [ad_assoc, ad_self, ad_zr] at this
          exact this
        rw [t3, ad_self] at t1
        exact on_ne n t1.symm
    obtain ⟨g, hg⟩ := inv n _ nz
    refine ⟨ml (ad a (lo a.1)) (lo g), ?_⟩
    rw [← ml_assoc, nm, lo_ml, hg]
    rfl
def pw (a : E n) : Nat → E n
  | 0 => on n
  | k + 1 => ml (pw a k) a
theorem pw_add (a : E n) (j : Nat) : ∀ k : Nat, pw a (j + k) = ml (pw a j) (pw a k)
  | 0 => (ml_on _).symm
  | k + 1 => by show ml (pw a (j + k)) a = ml _ (ml _ _); rw [pw_add a j k, ml_assoc]
theorem pw_mul (a : E n) (j : Nat) : ∀ k : Nat, pw a (j * k) = pw (pw a j) k
  | 0 => rfl
  | k + 1 => by rw [Nat.mul_succ, pw_add, pw_mul a j k]; rfl
theorem fr_pw (a : E n) : ∀ k : Nat, fr k a = pw a (2 ^ k)
  | 0 => (on_ml a).symm
  | k + 1 => by
    rw [Nat.pow_succ, Nat.mul_two, pw_add, ← fr_pw a k]
    rfl
/-- the inverse as a power -/
theorem inv_pw {a : E n} (h : a ≠ zr n) : ml a (pw a (2 ^ 2 ^ n - 2)) = on n := by
  obtain ⟨g, hg⟩ := inv n a h
  have h1 := (main n).1 a
  rw [fr_pw] at h1
  have h4 : 2 ≤ 2 ^ 2 ^ n := Nat.le_trans (show 2 ≤ 2 ^ 1 by decide) (Nat.pow_le_pow_right (by decide) (Nat.two_pow_pos n))
  have e : 2 ^ 2 ^ n = 1 + (2 ^ 2 ^ n - 2) + 1 := by omega
  rw [e] at h1
  have h2 : ml (ml (pw a (1 + (2 ^ 2 ^ n - 2))) a) g = on n := by
    show ml (pw a (1 + (2 ^ 2 ^ n - 2) + 1)) g = on n
    rw [h1, hg]
  rw [ml_assoc, hg, ml_on, pw_add] at h2
  show ml a _ = _
  rw [show pw a 1 = a from on_ml a] at h2
  exact h2
end
section
def vl : {n : Nat} → E n → Nat
  | 0, a => Bool.toNat a
  | n + 1, a => vl a.1 * 2 ^ 2 ^ n + vl a.2
def dc : (n : Nat) → Nat → E n
  | 0, a => decide (a % 2 = 1)
  | n + 1, a => (dc n (a / 2 ^ 2 ^ n), dc n (a % 2 ^ 2 ^ n))
theorem top_succ (n : Nat) : 2 ^ 2 ^ (n + 1) = 2 ^ 2 ^ n * 2 ^ 2 ^ n := by rw [← Nat.pow_add]; congr 1; rw [Nat.pow_succ]; omega
theorem top_le {i j : Nat} (h : i ≤ j) : 2 ^ 2 ^ i ≤ 2 ^ 2 ^ j := Nat.pow_le_pow_right (by decide) (Nat.pow_le_pow_right (by decide) h)
theorem vl_lt : ∀ {n : Nat} (x : E n), vl x < 2 ^ 2 ^ n
  | 0, x => by cases x <;> decide
  | n + 1, x => by
    have h1 := vl_lt x.1
    have h2 := vl_lt x.2
    show vl x.1 * 2 ^ 2 ^ n + vl x.2 < _
    rw [top_succ]
    have : (vl x.1 + 1) * 2 ^ 2 ^ n ≤ 2 ^ 2 ^ n * 2 ^ 2 ^ n := Nat.mul_le_mul_right _ h1
    rw [Nat.succ_mul] at this
    omega
theorem dc_vl : ∀ {n : Nat} (x : E n), dc n (vl x) = x
  | 0, x => by cases x <;> rfl
  | n + 1, x => by
    have h2 := vl_lt x.2
    have hp := Nat.two_pow_pos (2 ^ n)
    show (dc n ((vl x.1 * 2 ^ 2 ^ n + vl x.2) / 2 ^ 2 ^ n), dc n ((vl x.1 * 2 ^ 2 ^ n + vl x.2) % 2 ^ 2 ^ n)) = x
    rw [Nat.mul_comm, Nat.mul_add_div hp, Nat.div_eq_of_lt h2, Nat.mul_add_mod, Nat.mod_eq_of_lt h2, Nat.add_zero, dc_vl, dc_vl]
    rfl
theorem vl_dc : ∀ (n : Nat) {a : Nat}, a < 2 ^ 2 ^ n → vl (dc n a) = a
  | 0, a, h => by
    have : a = 0 ∨ a = 1 := by have : 2 ^ 2 ^ 0 = 2 := rfl; omega
    rcases this with rfl | rfl <;> rfl
  | n + 1, a, h => by
    have hp := Nat.two_pow_pos (2 ^ n)
    rw [top_succ] at h
    show vl (dc n (a / 2 ^ 2 ^ n)) * 2 ^ 2 ^ n + vl (dc n (a % 2 ^ 2 ^ n)) = a
    rw [vl_dc n (Nat.div_lt_of_lt_mul h), vl_dc n (Nat.mod_lt _ hp), Nat.mul_comm, Nat.div_add_mod]
theorem join_xor {k a b c d : Nat} (hb : b < 2 ^ k) (hd : d < 2 ^ k) : (a * 2 ^ k + b) ^^^ (c * 2 ^ k + d) = (a ^^^ c) * 2 ^ k + (b ^^^ d) := by
  refine Nat.eq_of_testBit_eq fun i => ?_
  rw [Nat.testBit_xor, Nat.mul_comm a, Nat.mul_comm c, Nat.mul_comm (a ^^^ c), Nat.testBit_two_pow_mul_add _ hb, Nat.testBit_two_pow_mul_add _ hd, Nat.testBit_two_pow_mul_add _ (Nat.xor_lt_two_pow hb hd)]
  split
  · rw [Nat.testBit_xor]
  · rw [Nat.testBit_xor]
theorem vl_ad : ∀ {n : Nat} (x y : E n), vl (ad x y) = vl x ^^^ vl y
  | 0, x, y => by cases x <;> cases y <;> rfl
  | n + 1, x, y => by
    show vl (ad x.1 y.1) * _ + vl (ad x.2 y.2) = (vl x.1 * _ + vl x.2) ^^^ (vl y.1 * _ + vl y.2)
    rw [vl_ad, vl_ad, join_xor (vl_lt _) (vl_lt _)]
theorem vl_zr : ∀ n : Nat, vl (zr n) = 0
  | 0 => rfl
  | n + 1 => by show vl (zr n) * _ + vl (zr n) = 0; rw [vl_zr, Nat.zero_mul]
theorem vl_on : ∀ n : Nat, vl (on n) = 1
  | 0 => rfl
  | n + 1 => by show vl (zr n) * _ + vl (on n) = 1; rw [vl_zr, vl_on, Nat.zero_mul]
theorem vl_cc : ∀ n : Nat, vl (cc n) = 2 ^ (2 ^ n - 1)
  | 0 => rfl
  | n + 1 => by
    show vl (cc n) * _ + vl (zr n) = _
    rw [vl_zr, vl_cc, ← Nat.pow_add]
    have := Nat.two_pow_pos n
    rw [Nat.add_zero]
    congr 1
    rw [Nat.pow_succ]
    omega
theorem vl_lo {n : Nat} (x : E n) : vl (lo x) = vl x := by show vl (zr n) * _ + vl x = vl x; rw [vl_zr, Nat.zero_mul, Nat.zero_add]
theorem vl_inj {n : Nat} {x y : E n} (h : vl x = vl y) : x = y := by rw [← dc_vl x, h, dc_vl]
theorem dc_xor {n a b : Nat} (ha : a < 2 ^ 2 ^ n) (hb : b < 2 ^ 2 ^ n) : dc n (a ^^^ b) = ad (dc n a) (dc n b) := vl_inj (by rw [vl_ad, vl_dc n ha, vl_dc n hb, vl_dc n (Nat.xor_lt_two_pow ha hb)])
/-- the product at a level -/
def np (n a b : Nat) : Nat := vl (ml (dc n a) (dc n b))
theorem np_lt (n a b : Nat) : np n a b < 2 ^ 2 ^ n := vl_lt _
theorem dc_np (n a b : Nat) : dc n (np n a b) = ml (dc n a) (dc n b) := dc_vl _
theorem dc_succ {n a : Nat} (h : a < 2 ^ 2 ^ n) : dc (n + 1) a = lo (dc n a) := vl_inj (by
  rw [vl_lo, vl_dc n h, vl_dc (n + 1) (Nat.lt_of_lt_of_le h (top_le (Nat.le_succ n)))])
theorem np_succ {n a b : Nat} (ha : a < 2 ^ 2 ^ n) (hb : b < 2 ^ 2 ^ n) : np (n + 1) a b = np n a b := by
  unfold np
  rw [dc_succ ha, dc_succ hb, lo_ml, vl_lo]
theorem np_up {n a b : Nat} (ha : a < 2 ^ 2 ^ n) (hb : b < 2 ^ 2 ^ n) : ∀ k : Nat, np (n + k) a b = np n a b
  | 0 => rfl
  | k + 1 => by
    rw [← Nat.add_assoc, np_succ (Nat.lt_of_lt_of_le ha (top_le (Nat.le_add_right n k))) (Nat.lt_of_lt_of_le hb (top_le (Nat.le_add_right n k))), np_up ha hb k]
theorem np_le {n m a b : Nat} (h : n ≤ m) (ha : a < 2 ^ 2 ^ n) (hb : b < 2 ^ 2 ^ n) : np m a b = np n a b := by
  obtain ⟨k, rfl⟩ := Nat.exists_eq_add_of_le h
  exact np_up ha hb k
theorem np_comm (n a b : Nat) : np n a b = np n b a := by unfold np; rw [ml_comm]
theorem np_assoc (n a b c : Nat) : np n (np n a b) c = np n a (np n b c) := by
  show vl (ml (dc n (np n a b)) _) = vl (ml _ (dc n (np n b c)))
  rw [dc_np, dc_np, ml_assoc]
theorem np_xor (n a : Nat) {b c : Nat} (hb : b < 2 ^ 2 ^ n) (hc : c < 2 ^ 2 ^ n) : np n a (b ^^^ c) = np n a b ^^^ np n a c := by
  unfold np
  rw [dc_xor hb hc, ml_ad, vl_ad]
theorem dc_zr (n : Nat) : dc n 0 = zr n := vl_inj (by rw [vl_zr, vl_dc n (Nat.two_pow_pos _)])
theorem dc_on (n : Nat) : dc n 1 = on n := vl_inj (by rw [vl_on, vl_dc n (Nat.one_lt_two_pow (by have := Nat.two_pow_pos n; omega))])
theorem np_zero (n a : Nat) : np n 0 a = 0 := by unfold np; rw [dc_zr, zr_ml, vl_zr]
theorem np_one (n : Nat) {a : Nat} (h : a < 2 ^ 2 ^ n) : np n 1 a = a := by unfold np; rw [dc_on, on_ml, vl_dc n h]
theorem np_small {n a b : Nat} (ha : a < 2 ^ 2 ^ n) (hb : b < 2 ^ 2 ^ n) (h : a < 2 ∨ b < 2) : np n a b = a * b := by
  have z : ∀ a b : Nat, a < 2 → b < 2 ^ 2 ^ n → np n a b = a * b := fun a b h hb => by
    have : a = 0 ∨ a = 1 := by omega
    rcases this with rfl | rfl
    · rw [np_zero, Nat.zero_mul]
    · rw [np_one n hb, Nat.one_mul]
  rcases h with h | h
  · exact z a b h hb
  · rw [np_comm, z b a h ha, Nat.mul_comm]
/-- how the program finds it -/
theorem np_step {i a b : Nat} (ha : a < 2 ^ 2 ^ (i + 1)) (hb : b < 2 ^ 2 ^ (i + 1)) : np (i + 1) a b =
    ((np i ((a / 2 ^ 2 ^ i) ^^^ (a % 2 ^ 2 ^ i)) ((b / 2 ^ 2 ^ i) ^^^ (b % 2 ^ 2 ^ i)) ^^^ np i (a % 2 ^ 2 ^ i) (b % 2 ^ 2 ^ i)) * 2 ^ 2 ^ i) ^^^ np i (a % 2 ^ 2 ^ i) (b % 2 ^ 2 ^ i) ^^^ np i (np i (a / 2 ^ 2 ^ i) (b / 2 ^ 2 ^ i)) (2 ^ (2 ^ i - 1)) := by
  have hp := Nat.two_pow_pos (2 ^ i)
  rw [top_succ] at ha hb
  have a1 := Nat.div_lt_of_lt_mul ha
  have b1 := Nat.div_lt_of_lt_mul hb
  have a2 := Nat.mod_lt a hp
  have b2 := Nat.mod_lt b hp
  have hc : dc i (2 ^ (2 ^ i - 1)) = cc i := by rw [← vl_cc, dc_vl]
  show vl (ml (n := i + 1) (dc i (a / 2 ^ 2 ^ i), dc i (a % 2 ^ 2 ^ i)) (dc i (b / 2 ^ 2 ^ i), dc i (b % 2 ^ 2 ^ i))) = _
  unfold np
  rw [dc_vl, hc, dc_xor a1 a2, dc_xor b1 b2]
  generalize dc i (a / 2 ^ 2 ^ i) = u
  generalize dc i (a % 2 ^ 2 ^ i) = v
  generalize dc i (b / 2 ^ 2 ^ i) = x
  generalize dc i (b % 2 ^ 2 ^ i) = y
  show vl (ad (ad (ml u x) (ml u y)) (ml v x)) * 2 ^ 2 ^ i + vl (ad (ml v y) (ml (ml u x) (cc i))) = _
  rw [← vl_ad, Nat.xor_assoc, ← vl_ad]
  have e : ad (ml (ad u v) (ad x y)) (ml v y) = ad (ad (ml u x) (ml u y)) (ml v x) := by
    rw [ml_ad, ad_ml, ad_ml, ad_assoc, ad_assoc, ad_assoc, ad_self, ad_zr, ad_comm (ml v x)]
    simp only [ad_assoc]
  rw [e]
  have j := join_xor (k := 2 ^ i) (a := vl (ad (ad (ml u x) (ml u y)) (ml v x))) (b := 0) (c := 0) (d := vl (ad (ml v y) (ml (ml u x) (cc i)))) hp (vl_lt _)
  simp only [Nat.zero_mul, Nat.zero_add, Nat.add_zero, Nat.xor_zero, Nat.zero_xor] at j
  exact j.symm
theorem np_sq (n a : Nat) : dc n (np n a a) = sq (dc n a) := dc_np n a a
def sqs (n : Nat) : Nat → Nat → Nat
  | 0, a => a
  | k + 1, a => sqs n k (np n a a)
theorem sqs_lt {n : Nat} : ∀ (k : Nat) {a : Nat}, a < 2 ^ 2 ^ n → sqs n k a < 2 ^ 2 ^ n
  | 0, _, h => h
  | k + 1, _, _ => sqs_lt k (np_lt _ _ _)
theorem dc_sqs (n : Nat) : ∀ (k a : Nat), dc n (sqs n k a) = fr k (dc n a)
  | 0, _ => rfl
  | k + 1, a => by
    show dc n (sqs n k (np n a a)) = sq (fr k (dc n a))
    rw [dc_sqs n k, np_sq, fr_sq]
theorem sqs_up {n m : Nat} (h : n ≤ m) : ∀ (k : Nat) {a : Nat}, a < 2 ^ 2 ^ n → sqs m k a = sqs n k a
  | 0, _, _ => rfl
  | k + 1, a, ha => by
    show sqs m k (np m a a) = sqs n k (np n a a)
    rw [np_le h ha ha, sqs_up h k (np_lt _ _ _)]
/-- the root, at the level of the number -/
theorem root_ok {n a : Nat} (h : a < 2 ^ 2 ^ n) : np n (sqs n (2 ^ n - 1) a) (sqs n (2 ^ n - 1) a) = a := by
  have e : dc n (np n (sqs n (2 ^ n - 1) a) (sqs n (2 ^ n - 1) a)) = dc n a := by
    rw [np_sq, dc_sqs]
    show fr (2 ^ n - 1 + 1) (dc n a) = _
    rw [Nat.sub_add_cancel (Nat.two_pow_pos n), (main n).1]
  have := congrArg vl e
  rwa [vl_dc n (np_lt _ _ _), vl_dc n h] at this
theorem np_sq_inj {n a b : Nat} (ha : a < 2 ^ 2 ^ n) (hb : b < 2 ^ 2 ^ n) (h : np n a a = np n b b) : a = b := by
  have e : sq (dc n a) = sq (dc n b) := by rw [← np_sq, ← np_sq, h]
  have := congrArg vl (sq_inj e)
  rwa [vl_dc n ha, vl_dc n hb] at this
def pws (n a : Nat) (k : Nat) : Nat := vl (pw (dc n a) k)
theorem pws_lt (n a k : Nat) : pws n a k < 2 ^ 2 ^ n := vl_lt _
theorem dc_pws (n a k : Nat) : dc n (pws n a k) = pw (dc n a) k := dc_vl _
/-- a step of the program's power -/
theorem pws_even (n a k : Nat) : pws n (np n a a) k = pws n a (2 * k) := by
  unfold pws
  rw [np_sq, pw_mul]
  congr 2
  show _ = ml (ml (on n) _) _
  rw [on_ml]
  rfl
theorem pws_odd (n a k : Nat) {x : Nat} (hx : x < 2 ^ 2 ^ n) : np n (np n x a) (pws n a (2 * k)) = np n x (pws n a (2 * k + 1)) := by
  rw [np_assoc]
  congr 1
  show vl (ml (dc n a) (dc n (pws n a (2 * k)))) = vl (pw (dc n a) (2 * k + 1))
  rw [dc_pws, ml_comm]
  rfl
theorem pws_zero (n a : Nat) : pws n a 0 = 1 := vl_on n
theorem inv_ok {n a : Nat} (h : a < 2 ^ 2 ^ n) (h0 : a ≠ 0) : np n a (pws n a (2 ^ 2 ^ n - 2)) = 1 := by
  unfold np
  rw [dc_pws, inv_pw, vl_on]
  intro e
  have := congrArg vl e
  rw [vl_dc n h, vl_zr] at this
  exact h0 this
/-- the next power, times what is less -/
theorem np_high {n a : Nat} (h : a < 2 ^ 2 ^ n) : np (n + 1) (2 ^ 2 ^ n) a = 2 ^ 2 ^ n * a := by
  have hp := Nat.two_pow_pos (2 ^ n)
  have e : dc (n + 1) (2 ^ 2 ^ n) = xx n := by
    show (dc n (2 ^ 2 ^ n / 2 ^ 2 ^ n), dc n (2 ^ 2 ^ n % 2 ^ 2 ^ n)) = _
    rw [Nat.div_self hp, Nat.mod_self, dc_on, dc_zr]
    rfl
  unfold np
  rw [e, dc_succ h]
  show vl (ad (ad (ml (on n) (zr n)) (ml (on n) (dc n a))) (ml (zr n) (zr n))) * 2 ^ 2 ^ n + vl (ad (ml (zr n) (dc n a)) (ml (ml (on n) (zr n)) (cc n))) = _
  rw [ml_zr, on_ml, zr_ml, zr_ml, zr_ad, ad_zr, zr_ml, ad_self, vl_zr, vl_dc n h, Nat.add_zero, Nat.mul_comm]
theorem np_highsq (n : Nat) : np (n + 1) (2 ^ 2 ^ n) (2 ^ 2 ^ n) = 2 ^ 2 ^ n + 2 ^ 2 ^ n / 2 := by
  have hp := Nat.two_pow_pos (2 ^ n)
  have e : dc (n + 1) (2 ^ 2 ^ n) = xx n := by
    show (dc n (2 ^ 2 ^ n / 2 ^ 2 ^ n), dc n (2 ^ 2 ^ n % 2 ^ 2 ^ n)) = _
    rw [Nat.div_self hp, Nat.mod_self, dc_on, dc_zr]
    rfl
  unfold np
  rw [e]
  have := sq_xx (n := n)
  unfold sq at this
  rw [this, vl_ad, vl_lo, vl_cc]
  show (vl (on n) * 2 ^ 2 ^ n + vl (zr n)) ^^^ _ = _
  rw [vl_on, vl_zr, Nat.one_mul, Nat.add_zero]
  have n1 := Nat.two_pow_pos n
  have lt : 2 ^ (2 ^ n - 1) < 2 ^ 2 ^ n := Nat.pow_lt_pow_right (by decide) (by omega)
  have j := join_xor (k := 2 ^ n) (a := 1) (b := 0) (c := 0) (d := 2 ^ (2 ^ n - 1)) hp lt
  simp only [Nat.zero_mul, Nat.zero_add, Nat.add_zero, Nat.xor_zero, Nat.zero_xor, Nat.one_mul] at j
  rw [j]
  congr 1
  have : 2 ^ 2 ^ n = 2 ^ (2 ^ n - 1) * 2 := by rw [← Nat.pow_succ]; congr 1; omega
  rw [this, Nat.mul_div_cancel _ (by decide)]
end
end NF

namespace N
open PySem L2 PyProof.Rows
open Z (Ext dpUp dpsUp dpsLen dpsGet DxO KyD DEn Cl cut offv bl Dfn)

section
variable {X : Cx} {tg ex : Expr} {m : ME}
end
section
variable {X : Cx} {ex : Expr} {ms : MA} {p pos apos : Pos}
end
section
variable {X : Cx} {a b : Expr} {ma mb : ME} {p pos p2 pos2 : Pos}
end
section
variable {X : Cx} {tg a b c : Expr} {ms : MA} {p pos : Pos}
end
end N

namespace N
open PySem L2 PyProof.Rows
open Z (Ext dpUp dpsUp dpsLen dpsGet DxO KyD DEn Cl cut offv bl Dfn)

section
variable {X : Cx}
end
section
variable {X : Cx} {a ex : Expr} {ma : ME} {ms : MA} {pos apos : Pos}
end
section
variable {X : Cx} {a : Expr} {ma : ME} {own : Bool} {p pos p2 pos2 : Pos}
end
section
variable {X : Cx} {a b c d v1 v2 v3 : Expr} {ma mi mb mj : ME} {ms : MA} {pos px pt pt2 tp1 tp2 : Pos} {kt k2 : Nat}
end
section
variable {X : Cx} {pos : Pos} {keys : List (Option Expr)} {values : List Expr} {k v : Expr} {m mv : ME} {mr : MPP}
end
section
variable {X : Cx} {a b c : Expr} {ms : MA} {pos : Pos}
end
end N

namespace N
open PySem L2 PyProof.Rows
open Z (Ext dpUp dpsUp dpsLen dpsGet DxO KyD DEn Cl cut offv bl Dfn)

section
variable {X : Cx} {pos : Pos}
end
end N

namespace N
open PySem L2 PyProof.Rows
open Z (Ext dpUp dpsUp dpsLen dpsGet DxO KyD DEn dkind)

section
variable {X : Cx}
variable {o ex : Expr} {to : TE} {t : TA} {apos cpos : Pos}
end
section
variable {X : Cx} {o ex : Expr} {ma : ME} {ms : MA} {apos pos : Pos}
end
section
variable {X : Cx} {o : Expr} {ma : ME} {apos pos : Pos}
end
end N

namespace N
open PySem L2 PyProof.Rows
open Z (Ext dpUp dpsUp dpsLen dpsGet DxO KyD DEn dkind)

section
variable {X : Cx} {a : Expr} {ma : ME} {pos : Pos}
end
end N

namespace N
open PySem L2 PyProof.Rows
open Z (Ext dpUp dpsUp dpsLen dpsGet DxO KyD DEn)

section
variable {X : Cx} {a b c d v1 v2 : Expr} {ma mi mb mj : ME} {ms : MA} {pos pt pt2 tp1 tp2 : Pos} {kt k2 : Nat}
end
section
variable {X : Cx} {b : Expr} {mb : ME} {p pos p2 pos2 : Pos}
end
end N

namespace N
open PySem L2 PyProof.Rows
open Z (Ext dpUp dpsUp dpsLen dpsGet DxO KyD DEn)

section
variable {X : Cx} {es : List Expr} {value : Expr} {pos : Pos}
end
end N

namespace N
open PySem L2 PyProof.Rows
open Z (Ext dpUp dpsUp dpsLen dpsGet DxO KyD DEn)

section
variable {X : Cx} {o ex : Expr} {ma mi : ME} {apos pos : Pos}
end
end N

namespace N
open PySem L2 PyProof.Rows
open Z (Dfn)

/-- a class of errors of the module, over ValueError, without its own __init__ -/
structure ExN (K : PySem.W.Frag) (mg : Str → Option Value) (x : Str) (C : Addr) : Prop where
  gC : mg x = some (.ref C)
  kC : PySem.W.keepIn K (.ref C) = true
  xC : PySem.W.excIn K C HandSPX.veTail "ValueError.__new__" = true
  bC : PySem.W.subIn K (.ref C) (.type "BaseException") = some true
  tC : PySem.W.typeIn K (.ref C) = some (.type "type")
  sC : PySem.W.subIn K (.ref C) (.ref C) = some true
  eC : ExcC K C
theorem ExN.exm {K : PySem.W.Frag} {mg : Str → Option Value} {x : Str} {C : Addr} (h : ExN K mg x C) : PySem.W.exmOne K (.ref C) (.ref C) = some true := PySem.W.exm_ref h.bC h.eC.hd h.tC h.sC
abbrev GX := Sto → List D → Option (Str × Sto)
/-- the promise of a def about the error that it raises -/
def spG (B : Ba) (mg : Str → Option Value) (G : GX) : Sp := fun vs H _ E => ∃ w ds s x s', Ok B w s H ∧ VRs B w vs ds ∧ G s ds = some (x, s') ∧ ∀ C w' H', mg x = some (.ref C) → w.le w' → Ok B w' s' H' → E (.ref C) none H'
structure FnX (P : Program) (w : World) (K : PySem.W.Frag) (mg : Str → Option Value) (base : Heap) (k : Nat) (x : Str) (G : GX) : Prop where
  ex : ∃ (f : Addr) (fd : FuncData) (ps : List Str), FnOk P w K mg base (L2.CX P w) k f fd ps (spG ⟨P, w, K⟩ mg G) ∧ mg x = some (.ref f) ∧ PySem.W.keepIn K (.ref f) = true ∧ Binds K fd ps []
theorem FnX.mono {P : Program} {w : World} {K : PySem.W.Frag} {mg : Str → Option Value} {base : Heap} {x : Str} {G : GX} {k j : Nat} (c : FnX P w K mg base k x G) (h : k ≤ j) : FnX P w K mg base j x G := let ⟨f, fd, ps, F, r⟩ := c.ex; ⟨f, fd, ps, F.mono h, r⟩
abbrev MX := Lo → Sto → Option (Str × Sto)
/-- statements that raise -/
def NSX (X : Cx) (W : WX) (st : List Stmt) (g : MX) : Prop := ∀ e s x s' b, g e s = some (x, s') → b ≤ s.length →
  PSs X st (fun _ σ H => ∃ w, Ok (ba X) w s H ∧ Sl (ba X) w e σ ∧ ∀ C w' H' σ', X.mg x = some (.ref C) → (w.take b).le w' → Ok (ba X) w' s' H' → W (.ref C) none σ' H')
/-- an expression that raises -/
def NEX (X : Cx) (W : WX) (ex : Expr) (g : MX) : Prop := ∀ e s x s', g e s = some (x, s') →
  PE X ex (fun σ H _ => ∃ w, Ok (ba X) w s H ∧ Sl (ba X) w e σ ∧ ∀ C w' H', X.mg x = some (.ref C) → w.le w' → Ok (ba X) w' s' H' → W (.ref C) none σ H')
section
variable {X : Cx} {W : WX} {ex a b c tg : Expr} {es : List Expr} {st : Stmt} {rest body orelse : List Stmt} {ms : MA} {mt : MT} {pos p : Pos} {M : MS} {g g1 g2 : MX}
theorem ps_noxN {st : Stmt} {t : L2.TS} (h : PS X.nox st t) : PS X st t := ⟨fun pins s σ H D I hw =>
  wpAny_mono (h.run pins s σ H D (I.wish _) hw) (fun _ _ q => q.unwish) fun _ _ z => False.elim z⟩
theorem NS.nox (h : NS X.nox st M) : NS X st M := fun e s fl e' s' b hm hb => ps_noxN (h e s fl e' s' b hm hb)
def xNone : MX := fun _ _ => none
theorem nsx_none {l : List Stmt} : NSX X W l xNone := fun e s C s' b h => by cases h
def xRaise (x : Str) : MX := fun _ s => some (x, s)
theorem nsx_raise {x m : Str} {j : Nat} {C : Addr} {p2 pos' : Pos} (hc : X.calm = true) (tk : Takes X W) (T : ExN X.K X.mg x C) (hg : Gl X x := by rfl) (hdb : (x == ("__debug__" : Str)) = false := by decide) :
    NSX X W (.Raise (some (.Call (.Name x p) [.Constant (.str m) j p2] [] pos)) none pos' :: rest) (xRaise x) := fun e s C' s' b h hb => by
  cases h
  refine Z.PSs.imp (pss_cons (ps_raise hc tk (pmk_own PySem.F.excBase_ValueError T.xC T.gC T.kC (raises_own T.bC T.tC) hg hdb)) pss_no) fun Dn σ H ⟨w, g, l, k⟩ => ?_
  exact k C w H σ T.gC ((N.W.le.refl w).cut b) g
def xIf (mt : MT) (g1 g2 : MX) : MX := fun e s => match mt e s with
  | some (true, s1) => g1 e s1
  | some (false, s1) => g2 e s1
  | none => none
theorem nsx_if (hc : NT X c mt) (h1 : NSX X W body g1) (h2 : NSX X W orelse g2) : NSX X W (.If c body orelse pos :: rest) (xIf mt g1 g2) := fun e s C s' b hm hb => by
  have fam : ∀ {l : List Stmt} {g : MX}, NSX X W l g → PSs X l (fun _ σ H => ∃ s1 b e1, g e1 s1 = some (C, s') ∧ b ≤ s1.length ∧ ∃ w, Ok (ba X) w s1 H ∧ Sl (ba X) w e1 σ ∧ ∀ C₁ w' H' σ', X.mg C = some (.ref C₁) → (w.take b).le w' → Ok (ba X) w' s' H' → W (.ref C₁) none σ' H') :=
    fun h2 => ⟨fun pins sh σ H Dn I ⟨s1, b, e1, hm, hb, q⟩ => (h2 e1 s1 C s' b hm hb).run pins sh σ H Dn I q⟩
  have go : ∀ k s1, mt e s = some (k, s1) → (if k then g1 else g2) e s1 = some (C, s') → PSs X (.If c body orelse pos :: rest) (fun _ σ H => ∃ w, Ok (ba X) w s H ∧ Sl (ba X) w e σ ∧ ∀ C₁ w' H' σ', X.mg C = some (.ref C₁) → (w.take b).le w' → Ok (ba X) w' s' H' → W (.ref C₁) none σ' H') := fun k s1 e1 e2 => by
    refine Z.PSs.imp (pss_cons (ps_if (hc _ _ _ _ e1) (fam h1) (fam h2)) pss_no) fun Dn σ H ⟨w, g, l, q⟩ => ⟨w, g, l, fun w1 H1 l1 g1' => ?_⟩
    have hb1 : b ≤ s1.length := Nat.le_trans hb (le_len l1 g g1')
    have hw : b ≤ w.ρ.length := by rw [g.lr]; exact hb
    have q1 : ∀ C₁ w' H' σ', X.mg C = some (.ref C₁) → (w1.take b).le w' → Ok (ba X) w' s' H' → W (.ref C₁) none σ' H' := fun C₁ w' H' σ' m' l' g' => q C₁ w' H' σ' m' (N.W.cut_trans (l1.cut b) hw l') g'
    cases k with
    | true => exact ⟨s1, b, e, e2, hb1, w1, g1', l.up l1, q1⟩
    | false => exact ⟨s1, b, e, e2, hb1, w1, g1', l.up l1, q1⟩
  unfold xIf at hm
  split at hm
  · rename_i s1 e1
    exact go true s1 e1 hm
  · rename_i s1 e1
    exact go false s1 e1 hm
  · cases hm
def xCall (G : GX) (ms : MA) : MX := fun e s => match ms e s with
  | some (ds, s1) => G s1 ds
  | none => none
theorem nex_call {G : GX} {x : Str} {k j : Nat} (c : FnX X.prog X.w X.K X.mg X.base k x G) (tk : Takes X W) (ha : NA X (ex :: es) ms) (hr : Room j X.A) (hk : k ≤ j := by omega) (cl : Z.Cl X x ex es pos := by exact ⟨rfl, rfl, rfl⟩) (hdb : (x == ("__debug__" : Str)) = false := by decide) :
    NEX X W (.Call (.Name x p) (ex :: es) [] pos) (xCall G ms) := fun e s C s' h => by
  unfold xCall at h
  split at h
  · rename_i ds s1 e1
    obtain ⟨f, fd, ps, FF, hm, kp, b⟩ := c.ex
    refine PE.imp (pe_callS FF (hr.mono hk) cl.1 hm kp b (fun σ => passAt tk σ) (ha _ _ _ _ e1) hdb cl.2.1 cl.2.2) fun σ H Q ⟨w, g, l, q⟩ => ⟨w, g, l, fun vs w1 H1 l1 g1 v1 => ?_⟩
    exact ⟨w1, ds, s1, C, s', g1, v1, h, fun C₁ w2 H2 m2 l2 g2 => q C₁ w2 H2 m2 (l1.trans l2) g2⟩
  · cases h
end
/-- a def that raises -/
noncomputable def fnX (np n : Nat) (g : MX) : GX := fun s ds => if ds.length = np then match g (ds.map some ++ List.replicate (n - np) none) s with
  | some (C, s') => some (C, trim s s')
  | none => none
  else none
theorem nfunX {P : Program} {w : World} {K : PySem.W.Frag} {mg : Str → Option Value} {base : Heap} {x : Str} {st : Stmt} {ps N : List Str} {k : Nat} {g : MX} (DD : Dfn K mg x st ps) (S : FnScope N ps (defScope st))
    (body : ∀ (f : Addr) (cdv : Value) (A : Around) (outer : List Env) (s : Shared) (H : Hp) (E : XK), Room k (A.deeper (envOfC x (defScope st) s.heap.objs.size f cdv)) →
      Takes (cxOf (L2.CX P w) P w K mg base N x (defScope st) f cdv A outer s H E) (fun cls d _ H => E cls d H) → NSX (cxOf (L2.CX P w) P w K mg base N x (defScope st) f cdv A outer s H E) (fun cls d _ H => E cls d H) (defBody st) g) :
    FnX P w K mg base (k + 1) x (fnX ps.length N.length g) := by
  obtain ⟨f, fd, F, hm, hb⟩ := DD.ex
  have len : ∀ {s : Sto} {ds : List D} {C : Str} {s' : Sto}, fnX ps.length N.length g s ds = some (C, s') → ds.length = ps.length := fun {s ds C s'} h => by
    unfold fnX at h
    split at h
    · assumption
    · cases h
  refine ⟨f, fd, ps, F.okX S (fun vs H Q E ⟨w, ds, s, C, s', g, hv, h, _⟩ => by rw [hv.len]; exact len h) (fun cdv A outer sh H vs Q E hr ⟨w, ds, s, C, s', g', hv, h, k⟩ => ?_), hm, F.kp, hb⟩
  have hl := len h
  unfold fnX at h
  rw [if_pos hl] at h
  split at h
  · rename_i C1 s1 e0
    cases h
    refine ⟨_, body f cdv A outer sh H E hr (takes_of rfl rfl rfl rfl) _ _ _ _ s.length e0 (Nat.le_refl _), w, g', ?_, fun C₁ w' H' σ' m2 l2 g2 => ?_⟩
    · show Sl _ w _ (vs.map some ++ List.replicate (N.length - vs.length) none)
      rw [hv.len, hl]
      exact VRs.start _ hv
    · have l3 : w.le w' := W.le.of_take l2 g'.lr
      rcases trim_cases g' g2 with ⟨h, _⟩ | ⟨h, h1, h2⟩
      · rw [h] at k; exact k C₁ w' H' m2 l3 g2
      · rw [h] at k
        refine k C₁ (w'.take s.length) H' m2 ⟨l3.F, ?_⟩ h2
        obtain ⟨m, hm⟩ := l3.ρ
        show w.ρ <+: w'.ρ.take s.length
        rw [← hm, ← g'.lr, List.take_append_of_le_length (Nat.le_refl _), List.take_length]
        exact List.prefix_rfl
  · cases h
end N

namespace N
open PySem L2 PyProof.Rows
open Z (Dfn)

/-- isinstance(e, (A, B, ..)) of the error that the suite holds -/
theorem call_isET {X : Cx} {a D : Addr} {oe : Obj} {pn : List (Addr × Obj)} {us : List Addr} (C : ExcC X.K D) (hz : Zc (.ref D) none oe) (hf : ∃ vs, oe.data = .fields vs) (e : PySem.W.kitAny X.K (.ref D) (us.map Value.ref) = some false) :
    CallR (X.suite a ((a, oe) :: pn)) (.builtin "isinstance") (fun xs H Q => ∃ tp, xs = [.ref a, .ref tp] ∧ H tp = some (.tup (us.map V.ref)) ∧ Q (.bl false) H) := by
  intro pins s σ H xs ws Q I r h
  obtain ⟨tp, rfl, hT, q⟩ := h
  obtain ⟨u1, u2, rfl, r1, r2⟩ := vals2 r
  cases (show u1 = Value.ref a from r1)
  cases (show u2 = Value.ref tp from r2)
  obtain ⟨hget, _⟩ := I.pin (a, oe) (List.mem_append.mpr (.inl List.mem_cons_self))
  obtain ⟨vs, hv⟩ := hf
  have J : PySem.W.InstAt s.heap a oe D none := by
    obtain ⟨oc, od, oda, osl⟩ := oe
    obtain ⟨h1, h2⟩ := hz
    dsimp only at h1 h2 hv
    subst h1 h2 hv
    exact ⟨hget, rfl, rfl, trivial⟩
  have pc : ∀ l : List Addr, Paired ClsV (l.map V.ref) (l.map Value.ref) := fun l => by
    induction l with
    | nil => exact .nil
    | cons x l ih => exact .cons (.own x) ih
  have hObj : ∃ its, Vals (us.map V.ref) its ∧ IsTup s.heap tp its.toArray := by
    have := I.hok tp _ hT
    obtain ⟨_, its, rv, hi⟩ := this
    exact ⟨its, rv, hi⟩
  obtain ⟨its, rv, o, h1, h2, n, h3⟩ := hObj
  have e3 := ClsV.all (pc us) rv
  subst e3
  obtain ⟨oc, od, dt, sl⟩ := o
  simp only at h2 h3
  subst h2 h3
  exact PySem.W.kia_tup (PySem.W.handS_kitx_exc C.hg C.hk C.hs C.hd C.ha C.hn C.ht C.hm) I.kIn J h1 e (fun z => nomatch z) fun tk => ⟨.bl false, H, I.tok tk, rfl, q⟩
/-- four classes of the module that are others than C -/
structure ExO (K : PySem.W.Frag) (mg : Str → Option Value) (C : Addr) (y1 y2 y3 y4 : Str) : Prop where
  ex : ∃ u1 u2 u3 u4 : Addr, mg y1 = some (.ref u1) ∧ mg y2 = some (.ref u2) ∧ mg y3 = some (.ref u3) ∧ mg y4 = some (.ref u4) ∧ PySem.W.kitAny K (.ref C) [.ref u1, .ref u2, .ref u3, .ref u4] = some false
/-- not isinstance(e, (A, B, C, D)) -/
abbrev notIsi (n y1 y2 y3 y4 : Str) (q1 q2 p1 p2 p3 p4 q3 q4 q5 : Pos) (k : Nat) : Expr := .UnaryOp .Not (.Call (.Name "isinstance" q1) [.Name n q2, .Tuple [.Name y1 p1, .Name y2 p2, .Name y3 p3, .Name y4 p4] k q3] [] q4) q5
/-- what is asked of the names -/
structure NIs (X : Cx) (i : Nat) (n y1 y2 y3 y4 : Str) : Prop where
  hN : X.N[i]? = some n
  hv : Vis X.env.scope n
  g0 : Gl X "isinstance"
  g1 : Gl X y1
  g2 : Gl X y2
  g3 : Gl X y3
  g4 : Gl X y4
  d0 : (n == ("__debug__" : Str)) = false
  dc : (n == ("__classdict__" : Str)) = false
  d1 : (y1 == ("__debug__" : Str)) = false
  d2 : (y2 == ("__debug__" : Str)) = false
  d3 : (y3 == ("__debug__" : Str)) = false
  d4 : (y4 == ("__debug__" : Str)) = false
section
variable {X : Cx} {a C : Addr} {oe : Obj} {pn : List (Addr × Obj)} {n y1 y2 y3 y4 : Str} {i : Nat} {q1 q2 p1 p2 p3 p4 q3 q4 q5 : Pos} {k : Nat}
theorem pe_isi (T2 : NIs X i n y1 y2 y3 y4) (hm : X.mg "isinstance" = none) (E : ExcC X.K C) (O : ExO X.K X.mg C y1 y2 y3 y4) (hz : Zc (.ref C) none oe) (hf : ∃ vs, oe.data = .fields vs) :
    PE (X.suite a ((a, oe) :: pn)) (.Call (.Name "isinstance" q1) [.Name n q2, .Tuple [.Name y1 p1, .Name y2 p2, .Name y3 p3, .Name y4 p4] k q3] [] q4) (fun σ H Q => σ[i]? = some (some (.ref a)) ∧ ∀ p o, H p = none → Q (.bl false) (upd H p (.tup o))) := by
  obtain ⟨u1, u2, u3, u4, m1, m2, m3, m4, kk⟩ := O.ex
  refine PE.imp (pe_callB (call_isET (us := [u1, u2, u3, u4]) E hz hf kk) T2.g0 hm (by decide +kernel) (pa_cons (pe_var (X := X.suite a ((a, oe) :: pn)) T2.hN T2.hv T2.d0 T2.dc) (pa_cons (pe_tup (pa_cons (pe_glob (X := X.suite a ((a, oe) :: pn)) (v := V.ref u1) T2.g1 m1 rfl T2.d1) (pa_cons (pe_glob (X := X.suite a ((a, oe) :: pn)) (v := V.ref u2) T2.g2 m2 rfl T2.d2) (pa_cons (pe_glob (X := X.suite a ((a, oe) :: pn)) (v := V.ref u3) T2.g3 m3 rfl T2.d3) (pa_cons (pe_glob (X := X.suite a ((a, oe) :: pn)) (v := V.ref u4) T2.g4 m4 rfl T2.d4) pa_nil))))) pa_nil))) fun σ H Q ⟨h1, h2⟩ => ?_
  refine ⟨.ref a, h1, ⟨by simp [sizeLine_eq], fun p hp => ?_⟩⟩
  exact ⟨p, rfl, by rw [upd_same]; rfl, h2 p _ hp⟩
theorem pe_notIsi (T2 : NIs X i n y1 y2 y3 y4) (hm : X.mg "isinstance" = none) (E : ExcC X.K C) (O : ExO X.K X.mg C y1 y2 y3 y4) (hz : Zc (.ref C) none oe) (hf : ∃ vs, oe.data = .fields vs) :
    PE (X.suite a ((a, oe) :: pn)) (notIsi n y1 y2 y3 y4 q1 q2 p1 p2 p3 p4 q3 q4 q5 k) (fun σ H Q => σ[i]? = some (some (.ref a)) ∧ ∀ p o, H p = none → Q (.bl true) (upd H p (.tup o))) :=
  PE.imp (pe_not (pe_isi T2 hm E O hz hf)) fun σ H Q ⟨h1, h2⟩ => ⟨h1, fun p o hp => ⟨false, rfl, h2 p o hp⟩⟩
end
/-- try: f(..) except x as n: return not isinstance(n, (..)) -/
def sTryRet (x : Str) (i : Nat) (g : MX) : MS := fun e s => match g e s with
  | some (x', s') => if x' = x ∧ i < e.length then some (.rt (.d (.bool true)), e, s') else none
  | none => none
section
variable {X : Cx} {C : Addr} {x n y1 y2 y3 y4 : Str} {i : Nat} {np q1 q2 p1 p2 p3 p4 q3 q4 q5 q6 pos pos' xp : Pos} {k : Nat} {g : MX} {ex : Expr}
theorem ns_tryRet (hs : X.stack = X.env :: X.outer) (hf : X.env.frame = some X.env.locals) (hN : X.N.Nodup) (hln : X.env.kindOf n = some .local) (T : ExN X.K X.mg x C) (hx : Gl X x) (hxd : (x == ("__debug__" : Str)) = false)
    (T2 : NIs X i n y1 y2 y3 y4) (hm : X.mg "isinstance" = none) (O : ExO X.K X.mg C y1 y2 y3 y4)
    (hb : ∀ (Wx : WX) (pn : List (Addr × Obj)) (xe : Value → Shared → Prop), Takes (X.tr pn xe) Wx → NEX (X.tr pn xe) Wx ex g) (hsw : swapsWith ex none xp.line X.env = pure false := by rfl) :
    NS X (.Try [.Expr ex xp] [.ExceptHandler (some (.Name x np)) (some n) [.Return (some (notIsi n y1 y2 y3 y4 q1 q2 p1 p2 p3 p4 q3 q4 q5 k)) q6] pos'] [] [] pos) (sTryRet x i g) := fun e s fl e' s' b h hbl => by
  unfold sTryRet at h
  split at h
  · rename_i x' s1 e0
    split at h
    · rename_i hc
      obtain ⟨rfl, hi⟩ := hc
      cases h
      refine Z.PS.imp (ps_try_as (i := i) (c := .ref C) (Wout := fun _ _ _ _ => False) (tb := fun Wx _ σ H => ∃ w, Ok (ba X) w s H ∧ Sl (ba X) w e σ ∧ ∀ C₁ w' H', X.mg x' = some (.ref C₁) → w.le w' → Ok (ba X) w' s' H' → Wx (.ref C₁) none σ H')
        (ts := fun a cls d D σ H => (cls = .ref C ∧ d = none) ∧ σ[i]? = some (some (.ref a)) ∧ ∀ p o, H p = none → D.rt (.bl true) (upd H p (.tup o))) hs hf hN T2.hN hln ⟨hx, hxd, .inl T.gC⟩ takes0
        (fun Wx pn xe tk _ => pss_one (Z.PS.imp (ps_expr (X := X.tr pn xe) (hb Wx pn xe tk e s x' s' e0) hsw) fun D σ H ⟨w, g1, l1, q⟩ => ⟨w, g1, l1, q⟩))
        (fun a oe cls d pn hz hf => ⟨fun pins sh σ H D I ⟨⟨h1, h2⟩, h3, h4⟩ => by
          subst h1 h2
          exact (pss_one (ps_ret (pe_notIsi T2 hm T.eC O hz hf))).run pins sh σ H D I ⟨h3, fun p o hp => h4 p o hp⟩⟩)) fun D σ H ⟨w, g1, l1, q⟩ => ?_
      refine ⟨w, g1, l1, fun C₁ w' H' m2 l2 g2 => by
        have ec := m2.symm.trans T.gC
        cases ec
        refine ⟨true, T.exm, fun _ a ha => ⟨⟨rfl, rfl⟩, ?_, fun p o hp => ?_⟩, fun h => by cases h⟩
        · rw [List.getElem?_set_self (by rw [← l1.le]; exact hi)]
        · exact q _ (.bl true) _ ((l2.trans (g2.frz_le hp)).cut b) (g2.frz hp) vb⟩
    · cases h
  · cases h
end
section
variable {X : Cx} {C : Addr} {x n y1 y2 y3 y4 td w1 w2 : Str} {i it : Nat} {np q1 q2 p1 p2 p3 p4 q3 q4 q5 q6 pos pos' xp c1 c2 c3 c4 u1 u2 u3 tp : Pos} {k k1 k2 k3 k4 k5 k6 : Nat} {g : MX} {M : MS} {bst : Stmt}
end
section
variable {X : Cx} {W : WX} {g g1 g2 : MX} {td w0 : Str} {call : Expr} {k1 k2 : Nat} {c1 c2 tp pos : Pos} {it : Nat} {st : List Stmt}
end
theorem exn_mk {K : PySem.W.Frag} {mg : Str → Option Value} {h : Heap} {x : Str} {C : Addr} (X : K.In h) (G : h.Ns PySem.mainGlobals mg) (zg : PySem.W.nsIn K PySem.mainGlobals x = some (some (.ref C))) (zk : PySem.W.keepIn K (.ref C) = true) (zx : PySem.W.excIn K C HandSPX.veTail "ValueError.__new__" = true)
    (zb : PySem.W.subIn K (.ref C) (.type "BaseException") = some true) (zt : PySem.W.typeIn K (.ref C) = some (.type "type")) (zs : PySem.W.subIn K (.ref C) (.ref C) = some true)
    (z1 : PySem.W.findIn K (.ref C) "__getattribute__" = some (some (.builtin "BaseException.__getattribute__"))) (z2 : PySem.W.findIn K (.ref C) "__getattr__" = some none) (z3 : PySem.W.subIn K (.ref C) (.type "BaseException") = some true) (z4 : PySem.W.hasDictIn K C = true)
    (z5 : PySem.W.findIn K (.ref C) "__class__" = some (some (.builtin "object.__class__"))) (z6 : PySem.W.specialIn K (.builtin "object.__class__") "__get__" = some (some (.builtin "getset_descriptor.__get__"))) (z7 : PySem.W.takesIn K (.builtin "object.__class__") = some true) (z8 : PySem.W.mroIn K C (.type "object") = some true) : ExN K mg x C :=
  ⟨PySem.W.mg_of X G zg, zk, zx, zb, zt, zs, ⟨z1, z2, z3, z4, z5, z6, z7, z8⟩⟩
theorem exo_mk {K : PySem.W.Frag} {mg : Str → Option Value} {h : Heap} {C u1 u2 u3 u4 : Addr} {y1 y2 y3 y4 : Str} (X : K.In h) (G : h.Ns PySem.mainGlobals mg) (e1 : PySem.W.nsIn K PySem.mainGlobals y1 = some (some (.ref u1))) (e2 : PySem.W.nsIn K PySem.mainGlobals y2 = some (some (.ref u2)))
    (e3 : PySem.W.nsIn K PySem.mainGlobals y3 = some (some (.ref u3))) (e4 : PySem.W.nsIn K PySem.mainGlobals y4 = some (some (.ref u4))) (k : PySem.W.kitAny K (.ref C) [.ref u1, .ref u2, .ref u3, .ref u4] = some false) : ExO K mg C y1 y2 y3 y4 :=
  ⟨u1, u2, u3, u4, PySem.W.mg_of X G e1, PySem.W.mg_of X G e2, PySem.W.mg_of X G e3, PySem.W.mg_of X G e4, k⟩
/-- a def without parameters is called -/
theorem n_call0 {X : Cx} {F : FA} {x : Str} {k j : Nat} {p pos : Pos} (c : Fn X.prog X.w X.K X.mg X.base k x F) (hr : Room j X.A) (hk : k ≤ j := by omega) (cl : Gl X x := by rfl) (hdb : (x == ("__debug__" : Str)) = false := by decide) : NE X (.Call (.Name x p) [] [] pos) (eCall F aNil) := fun e s z s' h => by
  obtain ⟨ds, s1, e1, e2⟩ := call_cases h
  cases e1
  obtain ⟨f, fd, ps, FF, hm, kp, b⟩ := c.ex
  refine PE.imp (pe_call0 FF (hr.mono hk) cl hm kp b .nil pass0 hdb) fun σ H Q ⟨w, g, l, q⟩ => ?_
  show spN _ F ([] ++ []) H Q E0
  exact ⟨w, [], s, z, s', g, trivial, e2, fun v w2 H2 l2 g2 v2 => q v w2 H2 l2 g2 v2⟩
end N

namespace T61
open PySem L2 PyProof.Rows N
open Z (Dfn)
def topS (i : Nat) : Stmt := PySem.Challenge.pw_cantmove_k61_whole_products.main.body.getD i (.Pass ⟨0, 0, 0, 0⟩)
structure Nm (mg : Str → Option Value) : Prop where
  n_all : mg "all" = none
  n_bool : mg "bool" = none
  n_int : mg "int" = none
  n_isinstance : mg "isinstance" = none
  n_len : mg "len" = none
  n_list : mg "list" = none
  n_max : mg "max" = none
  n_range : mg "range" = none
  n_str : mg "str" = none
  n_tuple : mg "tuple" = none
structure Gm (mg : Str → Option Value) : Prop where
  triv : True
structure Er (K : PySem.W.Frag) (mg : Str → Option Value) : Prop where
  e_NoAnswer : ∃ C, ExN K mg "NoAnswer" C
  o_NoAnswer : ∃ C, ExN K mg "NoAnswer" C ∧ ExO K mg C "BadText" "NotAllowed" "NotPossible" "TooMany"
variable {P : Program} {w : World} {K : PySem.W.Frag} {mg : Str → Option Value} {base : Heap}
abbrev s_level_of : Stmt := topS 8
theorem sc_level_of : FnScope ["a", "found"] ["a"] (defScope s_level_of) := ⟨rfl, rfl, rfl, by decide +kernel, rfl, by decide +kernel, by decide +kernel⟩
noncomputable def b_level_of : MS := (sSeq (sSet 1 (eC (.int 1)))
  (sSeq (sWhile (tVal (eBin oShr (eVar 0) (eVar 1))) (sSeq (sAug 1 oMulS (eC (.int 2)))
  sNil) [])
  (sSeq (sRet (eVar 1))
  sNil)))
noncomputable def m_level_of : FA := fnR 1 2 false b_level_of
theorem c_level_of (DD : Dfn K mg "level_of" s_level_of ["a"]) (n : Nm mg) (g : Gm mg)  : Fn P w K mg base 1 "level_of" m_level_of :=
  nfun (k := 0) DD sc_level_of fun f cdv A outer s H E hr => by
  have hu := hr.units
  have nd := sc_level_of.nd
  exact (ns_seq (ns_set 1 n_int nd)
  (ns_seq (ns_while (nt_val (n_bin o_shr (n_var 0) (n_var 1))) (ns_seq (ns_aug io_mul 1 n_int nd)
  ns_nil) PassesOwn.never)
  (ns_seq (ns_ret (n_var 1))
  ns_nil)))
abbrev s_nim_product : Stmt := topS 9
theorem sc_nim_product : FnScope ["a", "b", "half", "mask", "high", "low", "other_high", "other_low", "lows", "highs", "mixed"] ["a", "b"] (defScope s_nim_product) := ⟨rfl, rfl, rfl, by decide +kernel, rfl, by decide +kernel, by decide +kernel⟩
noncomputable def b_nim_product (rec : FA) : MS := (sSeq (sIf (tOr (tCmp cLt (eVar 0) (eC (.int 2))) (tCmp cLt (eVar 1) (eC (.int 2)))) (sSeq (sRet (eBin oMul (eVar 0) (eVar 1)))
  sNil) sNil)
  (sSeq (sSet 2 (eBin oDiv (eCall m_level_of (aCons (eCall bMax2 (aCons (eVar 0) (aCons (eVar 1) aNil))) aNil)) (eC (.int 2))))
  (sSeq (sSet 3 (eBin oSub (eBin oShl (eC (.int 1)) (eVar 2)) (eC (.int 1))))
  (sSeq (sPar [4, 5] (aCons (eBin oShr (eVar 0) (eVar 2)) (aCons (eBin oAnd (eVar 0) (eVar 3)) aNil)))
  (sSeq (sPar [6, 7] (aCons (eBin oShr (eVar 1) (eVar 2)) (aCons (eBin oAnd (eVar 1) (eVar 3)) aNil)))
  (sSeq (sSet 8 (eCall rec (aCons (eVar 5) (aCons (eVar 7) aNil))))
  (sSeq (sSet 9 (eCall rec (aCons (eVar 4) (aCons (eVar 6) aNil))))
  (sSeq (sSet 10 (eBin oXor (eCall rec (aCons (eBin oXor (eVar 4) (eVar 5)) (aCons (eBin oXor (eVar 6) (eVar 7)) aNil))) (eVar 8)))
  (sSeq (sRet (eBin oXor (eBin oXor (eBin oShl (eVar 10) (eVar 2)) (eVar 8)) (eCall rec (aCons (eVar 9) (aCons (eBin oShl (eC (.int 1)) (eBin oSub (eVar 2) (eC (.int 1)))) aNil)))))
  sNil)))))))))
noncomputable def m_nim_product : Nat → FA
  | 0 => fun _ _ => none
  | n + 1 => fnR 2 11 false (b_nim_product (m_nim_product n))
theorem cb_nim_product (DD : Dfn K mg "nim_product" s_nim_product ["a", "b"]) (n : Nm mg) (g : Gm mg) (h_level_of : Fn P w K mg base 1 "level_of" m_level_of) {k : Nat} {rec : FA} (h_nim_product : Fn P w K mg base (2 + k) "nim_product" rec) : Fn P w K mg base (2 + (k + 1)) "nim_product" (fnR 2 11 false (b_nim_product rec)) :=
  nfun (k := 2 + k) DD sc_nim_product fun f cdv A outer s H E hr => by
  have hu := hr.units
  have nd := sc_nim_product.nd
  exact (ns_seq (ns_if (nt_bo (nw_or (nt_cmp c_lt (n_var 0) n_int) (nw_or1 (nt_cmp c_lt (n_var 1) n_int)))) (ns_seq (ns_ret (n_bin o_mul (n_var 0) (n_var 1)))
  ns_nil) ns_nil)
  (ns_seq (ns_set 2 (n_bin o_div (n_call h_level_of (n_cons (n_callB (b_max2 rfl) (n_cons (n_var 0) (n_cons (n_var 1) n_nil)) n.n_max) n_nil) hr) n_int) nd)
  (ns_seq (ns_set 3 (n_bin o_sub (n_bin o_shl n_int (n_var 2)) n_int) nd)
  (ns_seq (ns_par2 4 5 (n_cons (n_bin o_shr (n_var 0) (n_var 2)) (n_cons (n_bin o_and (n_var 0) (n_var 3)) n_nil)) nd)
  (ns_seq (ns_par2 6 7 (n_cons (n_bin o_shr (n_var 1) (n_var 2)) (n_cons (n_bin o_and (n_var 1) (n_var 3)) n_nil)) nd)
  (ns_seq (ns_set 8 (n_call h_nim_product (n_cons (n_var 5) (n_cons (n_var 7) n_nil)) hr) nd)
  (ns_seq (ns_set 9 (n_call h_nim_product (n_cons (n_var 4) (n_cons (n_var 6) n_nil)) hr) nd)
  (ns_seq (ns_set 10 (n_bin o_xor (n_call h_nim_product (n_cons (n_bin o_xor (n_var 4) (n_var 5)) (n_cons (n_bin o_xor (n_var 6) (n_var 7)) n_nil)) hr) (n_var 8)) nd)
  (ns_seq (ns_ret (n_bin o_xor (n_bin o_xor (n_bin o_shl (n_var 10) (n_var 2)) (n_var 8)) (n_call h_nim_product (n_cons (n_var 9) (n_cons (n_bin o_shl n_int (n_bin o_sub (n_var 2) n_int)) n_nil)) hr)))
  ns_nil)))))))))
theorem c_nim_product (DD : Dfn K mg "nim_product" s_nim_product ["a", "b"]) (n : Nm mg) (g : Gm mg) (h_level_of : Fn P w K mg base 1 "level_of" m_level_of) : ∀ k : Nat, Fn P w K mg base (2 + k) "nim_product" (m_nim_product k)
  | 0 => (nfun_none (k := 0) DD sc_nim_product).mono (by omega)
  | k + 1 => cb_nim_product DD n g h_level_of (c_nim_product DD n g h_level_of k)
abbrev s_nim_power : Stmt := topS 10
theorem sc_nim_power : FnScope ["a", "k", "found"] ["a", "k"] (defScope s_nim_power) := ⟨rfl, rfl, rfl, by decide +kernel, rfl, by decide +kernel, by decide +kernel⟩
noncomputable def b_nim_power : MS := (sSeq (sSet 2 (eC (.int 1)))
  (sSeq (sWhile (tVal (eVar 1)) (sSeq (sIf (tVal (eBin oMod (eVar 1) (eC (.int 2)))) (sSeq (sSet 2 (eCall (m_nim_product 8) (aCons (eVar 2) (aCons (eVar 0) aNil))))
  sNil) sNil)
  (sSeq (sSet 0 (eCall (m_nim_product 8) (aCons (eVar 0) (aCons (eVar 0) aNil))))
  (sSeq (sAug 1 oDivS (eC (.int 2)))
  sNil))) [])
  (sSeq (sRet (eVar 2))
  sNil)))
noncomputable def m_nim_power : FA := fnR 2 3 false b_nim_power
theorem c_nim_power (DD : Dfn K mg "nim_power" s_nim_power ["a", "k"]) (n : Nm mg) (g : Gm mg) (h_nim_product : Fn P w K mg base 10 "nim_product" (m_nim_product 8)) : Fn P w K mg base 11 "nim_power" m_nim_power :=
  nfun (k := 10) DD sc_nim_power fun f cdv A outer s H E hr => by
  have hu := hr.units
  have nd := sc_nim_power.nd
  exact (ns_seq (ns_set 2 n_int nd)
  (ns_seq (ns_while (nt_val (n_var 1)) (ns_seq (ns_if (nt_val (n_bin o_mod (n_var 1) n_int)) (ns_seq (ns_set 2 (n_call h_nim_product (n_cons (n_var 2) (n_cons (n_var 0) n_nil)) hr) nd)
  ns_nil) ns_nil)
  (ns_seq (ns_set 0 (n_call h_nim_product (n_cons (n_var 0) (n_cons (n_var 0) n_nil)) hr) nd)
  (ns_seq (ns_aug io_div 1 n_int nd)
  ns_nil))) PassesOwn.never)
  (ns_seq (ns_ret (n_var 2))
  ns_nil)))
abbrev s_nim_inverse : Stmt := topS 11
theorem sc_nim_inverse : FnScope ["a"] ["a"] (defScope s_nim_inverse) := ⟨rfl, rfl, rfl, by decide +kernel, rfl, by decide +kernel, by decide +kernel⟩
noncomputable def x_nim_inverse : GX := fnX 1 1 (xIf (tCmp cEq (eVar 0) (eC (.int 0))) (xRaise "NoAnswer") xNone)
theorem cx_nim_inverse (DD : Dfn K mg "nim_inverse" s_nim_inverse ["a"]) (n : Nm mg) (g : Gm mg) (er : Er K mg) (h_level_of : Fn P w K mg base 1 "level_of" m_level_of) (h_nim_power : Fn P w K mg base 11 "nim_power" m_nim_power) : FnX P w K mg base 12 "nim_inverse" x_nim_inverse := by
  obtain ⟨C_NoAnswer, T_NoAnswer⟩ := er.e_NoAnswer
  exact nfunX (k := 11) DD sc_nim_inverse fun f cdv A outer s H E hr tk => by
    have hu := hr.units
    have nd := sc_nim_inverse.nd
    exact (nsx_if (nt_cmp (c_eq hu) (n_var 0) n_int) (nsx_raise rfl tk T_NoAnswer) nsx_none)
noncomputable def b_nim_inverse : MS := (sSeq (sIf (tCmp cEq (eVar 0) (eC (.int 0))) (sSeq sStop
  sNil) sNil)
  (sSeq (sRet (eIte (tCmp cGt (eVar 0) (eC (.int 1))) (eCall m_nim_power (aCons (eVar 0) (aCons (eBin oSub (eBin oShl (eC (.int 1)) (eCall m_level_of (aCons (eVar 0) aNil))) (eC (.int 2))) aNil))) (eC (.int 1))))
  sNil))
noncomputable def m_nim_inverse : FA := fnR 1 1 false b_nim_inverse
theorem c_nim_inverse (DD : Dfn K mg "nim_inverse" s_nim_inverse ["a"]) (n : Nm mg) (g : Gm mg) (h_level_of : Fn P w K mg base 1 "level_of" m_level_of) (h_nim_power : Fn P w K mg base 11 "nim_power" m_nim_power) : Fn P w K mg base 12 "nim_inverse" m_nim_inverse :=
  nfun (k := 11) DD sc_nim_inverse fun f cdv A outer s H E hr => by
  have hu := hr.units
  have nd := sc_nim_inverse.nd
  exact (ns_seq (ns_if (nt_cmp (c_eq hu) (n_var 0) n_int) (ns_seq ns_stop
  ns_nil) ns_nil)
  (ns_seq (ns_ret (n_ite (nt_cmp c_gt (n_var 0) n_int) (n_call h_nim_power (n_cons (n_var 0) (n_cons (n_bin o_sub (n_bin o_shl n_int (n_call h_level_of (n_cons (n_var 0) n_nil) hr)) n_int) n_nil)) hr) n_int))
  ns_nil))
abbrev s_nim_root : Stmt := topS 12
theorem sc_nim_root : FnScope ["a", "_"] ["a"] (defScope s_nim_root) := ⟨rfl, rfl, rfl, by decide +kernel, rfl, by decide +kernel, by decide +kernel⟩
noncomputable def b_nim_root : MS := (sSeq (sFor (iRng1 (aCons (eBin oSub (eCall m_level_of (aCons (eVar 0) aNil)) (eC (.int 1))) aNil)) (gName 1) (sSeq (sSet 0 (eCall (m_nim_product 8) (aCons (eVar 0) (aCons (eVar 0) aNil))))
  sNil) [1])
  (sSeq (sRet (eVar 0))
  sNil))
noncomputable def m_nim_root : FA := fnR 1 2 false b_nim_root
theorem c_nim_root (DD : Dfn K mg "nim_root" s_nim_root ["a"]) (n : Nm mg) (g : Gm mg) (h_level_of : Fn P w K mg base 1 "level_of" m_level_of) (h_nim_product : Fn P w K mg base 10 "nim_product" (m_nim_product 8)) : Fn P w K mg base 11 "nim_root" m_nim_root :=
  nfun (k := 10) DD sc_nim_root fun f cdv A outer s H E hr => by
  have hu := hr.units
  have nd := sc_nim_root.nd
  exact (ns_seq (ns_for (vs := [1]) (ni_rng1 (n_cons (n_bin o_sub (n_call h_level_of (n_cons (n_var 0) n_nil) hr) n_int) n_nil) n.n_range) (ng_name 1 nd) (ns_seq (ns_set 0 (n_call h_nim_product (n_cons (n_var 0) (n_cons (n_var 0) n_nil)) hr) nd)
  ns_nil) PassesOwn.never)
  (ns_seq (ns_ret (n_var 0))
  ns_nil))
abbrev s__law_box : Stmt := topS 14
theorem sc__law_box : FnScope ["script"] ["script"] (defScope s__law_box) := ⟨rfl, rfl, rfl, by decide +kernel, rfl, by decide +kernel, by decide +kernel⟩
theorem c__law_box (DD : Dfn K mg "_law_box" s__law_box ["script"]) (n : Nm mg) (g : Gm mg)  : Fn P w K mg base 1 "_law_box" m__law_box :=
  nfun (k := 0) DD sc__law_box fun f cdv A outer s H E hr => by
  have hu := hr.units
  have nd := sc__law_box.nd
  exact (ns_seq (ns_ret (n_lst (n_cons (n_callT b_list (n_cons (n_sl (n_var 0) no_none (no_some n_int)) n_nil) n.n_list) (n_cons n_int (n_cons (n_bin o_add n_int (n_callB b_len (n_cons (n_var 0) n_nil) n.n_len)) n_nil)))))
  ns_nil)
abbrev s__law_load : Stmt := topS 15
theorem sc__law_load : FnScope ["box", "cells", "cell", "size", "first", "second"] ["box"] (defScope s__law_load) := ⟨rfl, rfl, rfl, by decide +kernel, rfl, by decide +kernel, by decide +kernel⟩
theorem c__law_load (DD : Dfn K mg "_law_load" s__law_load ["box"]) (n : Nm mg) (g : Gm mg)  : Fn P w K mg base 1 "_law_load" m__law_load :=
  nfun (k := 0) DD sc__law_load fun f cdv A outer s H E hr => by
  have hu := hr.units
  have nd := sc__law_load.nd
  exact (ns_seq (ns_set 1 (n_it hu (n_var 0) n_int) nd)
  (ns_seq (ns_if (nt_cmp c_gt (n_callB b_len (n_cons (n_var 1) n_nil) n.n_len) n_int) (ns_seq (ns_set 2 (n_callT b_int (n_cons (n_meth f_popAt (n_var 1) (n_cons n_int n_nil) PySem.F.slot_list_pop PySem.F.type_list_pop) n_nil) n.n_int) nd)
  (ns_seq (ns_set 3 (n_ite (nt_cmp c_ge (n_var 2) n_int) (n_bin o_mul n_int (n_var 2)) (n_bin o_sub (n_bin o_mul (n_neg n_int) (n_var 2)) n_int)) nd)
  (ns_seq (ns_if (nt_cmp c_ge (n_var 3) n_int) (ns_seq (ns_ret (n_var 3))
  ns_nil) ns_nil)
  (ns_seq (ns_pu hu (n_bin o_mod (n_callT b_int (n_cons (n_bin o_add (n_bin o_add (n_bin o_mul (n_it hu (n_var 0) n_int) n_int) (n_bin o_mul (n_var 3) n_int)) n_int) n_nil) n.n_int) n_int) (n_var 0) n_int)
  ns_nil)))) ns_nil)
  (ns_seq (ns_set 4 (n_bin o_mod (n_callT b_int (n_cons (n_bin o_add (n_bin o_mul (n_it hu (n_var 0) n_int) n_int) n_int) n_nil) n.n_int) n_int) nd)
  (ns_seq (ns_set 5 (n_bin o_mod (n_callT b_int (n_cons (n_bin o_add (n_bin o_mul (n_var 4) n_int) n_int) n_nil) n.n_int) n_int) nd)
  (ns_seq (ns_pu hu (n_bin o_mod (n_callT b_int (n_cons (n_bin o_add (n_bin o_mul (n_var 5) n_int) n_int) n_nil) n.n_int) n_int) (n_var 0) n_int)
  (ns_seq (ns_ret (n_bin o_add (n_bin o_add (n_bin o_mul (n_var 4) n_int) (n_bin o_mul (n_var 5) n_int)) (n_it hu (n_var 0) n_int)))
  ns_nil))))))
abbrev s__law_draw : Stmt := topS 16
theorem sc__law_draw : FnScope ["box", "many", "digit"] ["box", "many"] (defScope s__law_draw) := ⟨rfl, rfl, rfl, by decide +kernel, rfl, by decide +kernel, by decide +kernel⟩
theorem c__law_draw (DD : Dfn K mg "_law_draw" s__law_draw ["box", "many"]) (n : Nm mg) (g : Gm mg) (h__law_load : Fn P w K mg base 1 "_law_load" m__law_load) : Fn P w K mg base 2 "_law_draw" m__law_draw :=
  nfun (k := 1) DD sc__law_draw fun f cdv A outer s H E hr => by
  have hu := hr.units
  have nd := sc__law_draw.nd
  exact (ns_seq (ns_if (nt_cmp c_lt (n_it hu (n_var 0) n_int) (n_var 1)) (ns_seq (ns_pu hu (n_call h__law_load (n_cons (n_var 0) n_nil) hr) (n_var 0) n_int)
  ns_nil) ns_nil)
  (ns_seq (ns_set 2 (n_bin o_mod (n_callT b_int (n_cons (n_it hu (n_var 0) n_int) n_nil) n.n_int) (n_var 1)) nd)
  (ns_seq (ns_pu hu (n_bin o_div (n_it hu (n_var 0) n_int) (n_var 1)) (n_var 0) n_int)
  (ns_seq (ns_ret (n_var 2))
  ns_nil))))
abbrev s__law_same : Stmt := topS 17
theorem sc__law_same : FnScope ["a", "b", "k"] ["a", "b"] (defScope s__law_same) := ⟨rfl, rfl, rfl, by decide +kernel, rfl, by decide +kernel, by decide +kernel⟩
theorem cb__law_same (DD : Dfn K mg "_law_same" s__law_same ["a", "b"]) (n : Nm mg) (g : Gm mg)  {k : Nat} {rec : FA} (h__law_same : Fn P w K mg base (1 + k) "_law_same" rec) : Fn P w K mg base (1 + (k + 1)) "_law_same" (fnR 2 3 false (b__law_same rec)) :=
  nfun (k := 1 + k) DD sc__law_same fun f cdv A outer s H E hr => by
  have hu := hr.units
  have nd := sc__law_same.nd
  exact (ns_seq (ns_if (nt_bo (nw_or (nt_bo (nw_and (nt_val (n_isi .tup (n_var 0) n.n_isinstance n.n_tuple)) (nw_and1 (nt_val (n_isi .tup (n_var 1) n.n_isinstance n.n_tuple))))) (nw_or1 (nt_bo (nw_and (nt_val (n_isi .lst (n_var 0) n.n_isinstance n.n_list)) (nw_and1 (nt_val (n_isi .lst (n_var 1) n.n_isinstance n.n_list)))))))) (ns_seq (ns_ret (n_and (n_cmp (c_eq hu) (n_callB b_len (n_cons (n_var 0) n_nil) n.n_len) (n_callB b_len (n_cons (n_var 1) n_nil) n.n_len)) (n_one (n_callB (b_all rfl) (n_cons (n_lc (ni_rng1 (n_cons (n_callB b_len (n_cons (n_var 0) n_nil) n.n_len) n_nil) n.n_range) (fun z => (ng_name 2 nd)) (fun z => nts_nil) (fun z => (n_call h__law_same (n_cons (n_it hu (n_var 0) (n_var 2)) (n_cons (n_it hu (n_var 1) (n_var 2)) n_nil)) hr)) nd (blkOk_by (own := [("k", 2)]) (by kernel_rfl))) n_nil) n.n_all))))
  ns_nil) ns_nil)
  (ns_seq (ns_if (nt_bo (nw_or (nt_val (n_isi .bl (n_var 0) n.n_isinstance n.n_bool)) (nw_or1 (nt_val (n_isi .bl (n_var 1) n.n_isinstance n.n_bool))))) (ns_seq (ns_ret (n_and (n_isi .bl (n_var 0) n.n_isinstance n.n_bool) (n_and (n_isi .bl (n_var 1) n.n_isinstance n.n_bool) (n_one (n_cmp (c_eq hu) (n_var 0) (n_var 1))))))
  ns_nil) ns_nil)
  (ns_seq (ns_if (nt_bo (nw_or (nt_bo (nw_and (nt_val (n_isi .int (n_var 0) n.n_isinstance n.n_int)) (nw_and1 (nt_val (n_isi .int (n_var 1) n.n_isinstance n.n_int))))) (nw_or1 (nt_bo (nw_and (nt_val (n_isi .str (n_var 0) n.n_isinstance n.n_str)) (nw_and1 (nt_val (n_isi .str (n_var 1) n.n_isinstance n.n_str)))))))) (ns_seq (ns_ret (n_cmp (c_eq hu) (n_var 0) (n_var 1)))
  ns_nil) ns_nil)
  (ns_seq (ns_ret (n_and (n_cmp c_is (n_var 0) n_non) (n_one (n_cmp c_is (n_var 1) n_non))))
  ns_nil))))
theorem c__law_same (DD : Dfn K mg "_law_same" s__law_same ["a", "b"]) (n : Nm mg) (g : Gm mg)  : ∀ k : Nat, Fn P w K mg base (1 + k) "_law_same" (m__law_same k)
  | 0 => (nfun_none (k := 0) DD sc__law_same).mono (by omega)
  | k + 1 => cb__law_same DD n g  (c__law_same DD n g  k)
abbrev s__law_product : Stmt := topS 18
theorem sc__law_product : FnScope ["a", "b", "met", "worths", "x", "y", "found"] ["a", "b", "met"] (defScope s__law_product) := ⟨rfl, rfl, rfl, by decide +kernel, rfl, by decide +kernel, by decide +kernel⟩
noncomputable def b__law_product (rec : FA) : MS := (sSeq (sIf (tCmp (cIn true) (eTup (aCons (eVar 0) (aCons (eVar 1) aNil))) (eVar 2)) (sSeq (sSet 3 eDicK)
  (sSeq (sFor (iRng1 (aCons (eVar 0) aNil)) (gName 4) (sSeq (sFor (iRng1 (aCons (eVar 1) aNil)) (gName 5) (sSeq (sPu (eVar 3) (eBin oXor (eBin oXor (eCall rec (aCons (eVar 4) (aCons (eVar 1) (aCons (eVar 2) aNil)))) (eCall rec (aCons (eVar 0) (aCons (eVar 5) (aCons (eVar 2) aNil))))) (eCall rec (aCons (eVar 4) (aCons (eVar 5) (aCons (eVar 2) aNil))))) (eC (.bool true)))
  sNil) [5])
  sNil) [4, 5])
  (sSeq (sSet 6 (eC (.int 0)))
  (sSeq (sWhile (tCmp (cIn false) (eVar 6) (eVar 3)) (sSeq (sSet 6 (eBin (oAdd false) (eVar 6) (eC (.int 1))))
  sNil) [])
  (sSeq (sPu (eVar 2) (eTup (aCons (eVar 0) (aCons (eVar 1) aNil))) (eVar 6))
  sNil))))) sNil)
  (sSeq (sRet (eIt (eVar 2) (eTup (aCons (eVar 0) (aCons (eVar 1) aNil)))))
  sNil))
noncomputable def m__law_product : Nat → FA
  | 0 => fun _ _ => none
  | n + 1 => fnR 3 7 false (b__law_product (m__law_product n))
theorem cb__law_product (DD : Dfn K mg "_law_product" s__law_product ["a", "b", "met"]) (n : Nm mg) (g : Gm mg)  {k : Nat} {rec : FA} (h__law_product : Fn P w K mg base (1 + k) "_law_product" rec) : Fn P w K mg base (1 + (k + 1)) "_law_product" (fnR 3 7 false (b__law_product rec)) :=
  nfun (k := 1 + k) DD sc__law_product fun f cdv A outer s H E hr => by
  have hu := hr.units
  have nd := sc__law_product.nd
  exact (ns_seq (ns_if (nt_in (.inr ⟨rfl, rfl⟩) hu (n_tup (n_cons (n_var 0) (n_cons (n_var 1) n_nil))) (n_var 2)) (ns_seq (ns_set 3 n_dicK nd)
  (ns_seq (ns_for (vs := [4]) (ni_rng1 (n_cons (n_var 0) n_nil) n.n_range) (ng_name 4 nd) (ns_seq (ns_for (vs := [5]) (ni_rng1 (n_cons (n_var 1) n_nil) n.n_range) (ng_name 5 nd) (ns_seq (ns_pu hu n_bl (n_var 3) (n_bin o_xor (n_bin o_xor (n_call h__law_product (n_cons (n_var 4) (n_cons (n_var 1) (n_cons (n_var 2) n_nil))) hr) (n_call h__law_product (n_cons (n_var 0) (n_cons (n_var 5) (n_cons (n_var 2) n_nil))) hr)) (n_call h__law_product (n_cons (n_var 4) (n_cons (n_var 5) (n_cons (n_var 2) n_nil))) hr)))
  ns_nil) PassesOwn.never)
  ns_nil) PassesOwn.never)
  (ns_seq (ns_set 6 n_int nd)
  (ns_seq (ns_while (nt_in (.inl ⟨rfl, rfl⟩) hu (n_var 6) (n_var 3)) (ns_seq (ns_set 6 (n_bin o_add (n_var 6) n_int) nd)
  ns_nil) PassesOwn.never)
  (ns_seq (ns_pu hu (n_var 6) (n_var 2) (n_tup (n_cons (n_var 0) (n_cons (n_var 1) n_nil))))
  ns_nil))))) ns_nil)
  (ns_seq (ns_ret (n_it hu (n_var 2) (n_tup (n_cons (n_var 0) (n_cons (n_var 1) n_nil)))))
  ns_nil))
theorem c__law_product (DD : Dfn K mg "_law_product" s__law_product ["a", "b", "met"]) (n : Nm mg) (g : Gm mg)  : ∀ k : Nat, Fn P w K mg base (1 + k) "_law_product" (m__law_product k)
  | 0 => (nfun_none (k := 0) DD sc__law_product).mono (by omega)
  | k + 1 => cb__law_product DD n g  (c__law_product DD n g  k)
abbrev s__law_refused : Stmt := topS 19
theorem sc__law_refused : FnScope ["error"] [] (defScope s__law_refused) := ⟨rfl, rfl, rfl, by decide +kernel, rfl, by decide +kernel, by decide +kernel⟩
noncomputable def b__law_refused : MS := (sSeq (sTryRet "NoAnswer" 0 (xCall x_nim_inverse (aCons (eC (.int 0)) aNil)))
  (sSeq (sRet (eC (.bool false)))
  sNil))
noncomputable def m__law_refused : FA := fnR 0 1 false b__law_refused
theorem c__law_refused (DD : Dfn K mg "_law_refused" s__law_refused []) (n : Nm mg) (g : Gm mg) (er : Er K mg) (h_nim_inverse : Fn P w K mg base 12 "nim_inverse" m_nim_inverse) (hx_nim_inverse : FnX P w K mg base 12 "nim_inverse" x_nim_inverse) : Fn P w K mg base 13 "_law_refused" m__law_refused := by
  obtain ⟨C_NoAnswer, T_NoAnswer, O_NoAnswer⟩ := er.o_NoAnswer
  exact nfun (k := 12) DD sc__law_refused fun f cdv A outer s H E hr => by
    have hu := hr.units
    have nd := sc__law_refused.nd
    exact (ns_seq (ns_tryRet rfl rfl nd rfl T_NoAnswer rfl (by decide) (by exact ⟨rfl, Or.inl rfl, rfl, rfl, rfl, rfl, rfl, by decide, by decide, by decide, by decide, by decide, by decide⟩) n.n_isinstance O_NoAnswer (fun Wx pn xe tk => nex_call hx_nim_inverse tk (n_cons n_int n_nil) hr))
  (ns_seq (ns_ret n_bl)
  ns_nil))
abbrev s_law : Stmt := topS 20
theorem sc_law : FnScope ["script", "box", "met", "turn", "a", "b", "bits", "top", "c", "ab", "root", "inverse_there", "powers", "k", "i", "j", "high"] ["script"] (defScope s_law) := ⟨rfl, rfl, rfl, by decide +kernel, rfl, by decide +kernel, by decide +kernel⟩
noncomputable def b_law : MS := (sSeq (sSet 1 (eCall m__law_box (aCons (eVar 0) aNil)))
  (sSeq (sSet 2 eDic)
  (sSeq (sFor (iRng1 (aCons (eC (.int 6)) aNil)) (gName 3) (sSeq (sPar [4, 5] (aCons (eCall m__law_draw (aCons (eVar 1) (aCons (eC (.int 16)) aNil))) (aCons (eCall m__law_draw (aCons (eVar 1) (aCons (eC (.int 16)) aNil))) aNil)))
  (sSeq (sIf (tNot (tVal (eCall (m__law_same 6) (aCons (eCall (m_nim_product 8) (aCons (eVar 4) (aCons (eVar 5) aNil))) (aCons (eCall (m__law_product 40) (aCons (eVar 4) (aCons (eVar 5) (aCons (eVar 2) aNil)))) aNil))))) (sSeq (sRet (eC (.bool false)))
  sNil) sNil)
  sNil)) [3, 4, 5])
  (sSeq (sFor (iTupl (eTup (aCons (eC (.int 4)) (aCons (eC (.int 8)) (aCons (eC (.int 16)) (aCons (eIt (eLst false (aCons (eC (.int 32)) (aCons (eC (.int 64)) aNil))) (eCall m__law_draw (aCons (eVar 1) (aCons (eC (.int 2)) aNil)))) aNil)))))) (gName 6) (sSeq (sSet 7 (eBin oShl (eC (.int 1)) (eVar 6)))
  (sSeq (sPar [4, 5, 8] (aCons (eCall m__law_draw (aCons (eVar 1) (aCons (eVar 7) aNil))) (aCons (eCall m__law_draw (aCons (eVar 1) (aCons (eVar 7) aNil))) (aCons (eCall m__law_draw (aCons (eVar 1) (aCons (eVar 7) aNil))) aNil))))
  (sSeq (sSet 9 (eCall (m_nim_product 8) (aCons (eVar 4) (aCons (eVar 5) aNil))))
  (sSeq (sIf (tOr (tNot (tVal (eCall (m__law_same 6) (aCons (eCall (m_nim_product 8) (aCons (eVar 5) (aCons (eVar 4) aNil))) (aCons (eVar 9) aNil))))) (tOr (tNot (chK (fun i j => decide (i ≤ j)) (fun i j => decide (i < j)) (eC (.int 0)) (eVar 9) (eVar 7))) (tNot (tVal (eCall (m__law_same 6) (aCons (eTup (aCons (eCall (m_nim_product 8) (aCons (eVar 4) (aCons (eC (.int 1)) aNil))) (aCons (eCall (m_nim_product 8) (aCons (eC (.int 0)) (aCons (eVar 5) aNil))) aNil))) (aCons (eTup (aCons (eVar 4) (aCons (eC (.int 0)) aNil))) aNil))))))) (sSeq (sRet (eC (.bool false)))
  sNil) sNil)
  (sSeq (sIf (tOr (tCmp cNe (eCall (m_nim_product 8) (aCons (eVar 9) (aCons (eVar 8) aNil))) (eCall (m_nim_product 8) (aCons (eVar 4) (aCons (eCall (m_nim_product 8) (aCons (eVar 5) (aCons (eVar 8) aNil))) aNil)))) (tCmp cNe (eCall (m_nim_product 8) (aCons (eVar 4) (aCons (eBin oXor (eVar 5) (eVar 8)) aNil))) (eBin oXor (eVar 9) (eCall (m_nim_product 8) (aCons (eVar 4) (aCons (eVar 8) aNil)))))) (sSeq (sRet (eC (.bool false)))
  sNil) sNil)
  (sSeq (sSet 10 (eCall m_nim_root (aCons (eVar 4) aNil)))
  (sSeq (sIf (tOr (tNot (tVal (eIsi .int (eVar 10)))) (tOr (tNot (chK (fun i j => decide (i ≤ j)) (fun i j => decide (i < j)) (eC (.int 0)) (eVar 10) (eVar 7))) (tOr (tCmp cNe (eCall (m_nim_product 8) (aCons (eVar 10) (aCons (eVar 10) aNil))) (eVar 4)) (tNot (tVal (eCall (m__law_same 6) (aCons (eCall m_nim_root (aCons (eCall (m_nim_product 8) (aCons (eVar 5) (aCons (eVar 5) aNil))) aNil)) (aCons (eVar 5) aNil)))))))) (sSeq (sRet (eC (.bool false)))
  sNil) sNil)
  (sSeq (sIf (tAnd (tCmp cLt (eVar 6) (eC (.int 33))) (tCmp cGt (eVar 4) (eC (.int 0)))) (sSeq (sSet 11 (eCall m_nim_inverse (aCons (eVar 4) aNil)))
  (sSeq (sIf (tOr (tNot (tVal (eIsi .int (eVar 11)))) (tOr (tNot (chK (fun i j => decide (i < j)) (fun i j => decide (i < j)) (eC (.int 0)) (eVar 11) (eVar 7))) (tCmp cNe (eCall (m_nim_product 8) (aCons (eVar 4) (aCons (eVar 11) aNil))) (eC (.int 1))))) (sSeq (sRet (eC (.bool false)))
  sNil) sNil)
  sNil)) sNil)
  sNil)))))))) [4, 5, 6, 7, 8, 9, 10, 11])
  (sSeq (sSet 12 (eLc false [13] (iRng1 (aCons (eC (.int 6)) aNil)) (gName 13) tTrue (eBin oShl (eC (.int 1)) (eBin oShl (eC (.int 1)) (eVar 13)))))
  (sSeq (sPar [14, 15] (aCons (eCall m__law_draw (aCons (eVar 1) (aCons (eC (.int 6)) aNil))) (aCons (eCall m__law_draw (aCons (eVar 1) (aCons (eC (.int 6)) aNil))) aNil)))
  (sSeq (sSet 16 (eIt (eVar 12) (eVar 14)))
  (sSeq (sIf (tNot (tVal (eCall (m__law_same 6) (aCons (eCall (m_nim_product 8) (aCons (eVar 16) (aCons (eVar 16) aNil))) (aCons (eBin (oAdd false) (eVar 16) (eBin oDiv (eVar 16) (eC (.int 2)))) aNil))))) (sSeq (sRet (eC (.bool false)))
  sNil) sNil)
  (sSeq (sIf (tAnd (tCmp cNe (eVar 14) (eVar 15)) (tNot (tVal (eCall (m__law_same 6) (aCons (eCall (m_nim_product 8) (aCons (eVar 16) (aCons (eIt (eVar 12) (eVar 15)) aNil))) (aCons (eBin oMul (eVar 16) (eIt (eVar 12) (eVar 15))) aNil)))))) (sSeq (sRet (eC (.bool false)))
  sNil) sNil)
  (sSeq (sSet 4 (eCall m__law_draw (aCons (eVar 1) (aCons (eVar 16) aNil))))
  (sSeq (sRet (eAnd (eCall (m__law_same 6) (aCons (eCall (m_nim_product 8) (aCons (eVar 16) (aCons (eVar 4) aNil))) (aCons (eBin oMul (eVar 16) (eVar 4)) aNil))) (eAnd (eCall m__law_refused aNil) (eCall (m__law_same 6) (aCons (eTup (aCons (eCall m_nim_inverse (aCons (eC (.int 1)) aNil)) (aCons (eCall m_nim_inverse (aCons (eC (.int 2)) aNil)) (aCons (eCall m_nim_inverse (aCons (eC (.int 3)) aNil)) aNil)))) (aCons (eTup (aCons (eC (.int 1)) (aCons (eC (.int 3)) (aCons (eC (.int 2)) aNil)))) aNil))))))
  sNil)))))))))))
noncomputable def m_law : FA := fnR 1 17 false b_law
theorem c_law {f : Addr} {fd : FuncData} (FF : Fun K "law" "law" s_law f fd) (n : Nm mg) (g : Gm mg) (h__law_box : Fn P w K mg base 1 "_law_box" m__law_box) (h__law_draw : Fn P w K mg base 2 "_law_draw" m__law_draw) (h__law_product : Fn P w K mg base 41 "_law_product" (m__law_product 40)) (h__law_refused : Fn P w K mg base 13 "_law_refused" m__law_refused) (h__law_same : Fn P w K mg base 7 "_law_same" (m__law_same 6)) (h_nim_inverse : Fn P w K mg base 12 "nim_inverse" m_nim_inverse) (h_nim_product : Fn P w K mg base 10 "nim_product" (m_nim_product 8)) (h_nim_root : Fn P w K mg base 11 "nim_root" m_nim_root) (run : ∀ ns : List Int, ns.length ≤ 63 → ∃ s', m_law [] [.d (.list (ns.map .int))] = some (.d (.bool true), s')) : FnOk P w K mg base CX0 42 f fd ["script"] (spE K) :=
  law_fn (k := 41) (M := b_law) FF sc_law (fun f cdv A outer s H E hr => by
  have hu := hr.units
  have nd := sc_law.nd
  exact (ns_seq (ns_set 1 (n_call h__law_box (n_cons (n_var 0) n_nil) hr) nd)
  (ns_seq (ns_set 2 n_dic nd)
  (ns_seq (ns_for (vs := [3]) (ni_rng1 (n_cons n_int n_nil) n.n_range) (ng_name 3 nd) (ns_seq (ns_par2 4 5 (n_cons (n_call h__law_draw (n_cons (n_var 1) (n_cons n_int n_nil)) hr) (n_cons (n_call h__law_draw (n_cons (n_var 1) (n_cons n_int n_nil)) hr) n_nil)) nd)
  (ns_seq (ns_if (nt_not (nt_val (n_call h__law_same (n_cons (n_call h_nim_product (n_cons (n_var 4) (n_cons (n_var 5) n_nil)) hr) (n_cons (n_call h__law_product (n_cons (n_var 4) (n_cons (n_var 5) (n_cons (n_var 2) n_nil))) hr) n_nil)) hr))) (ns_seq (ns_ret n_bl)
  ns_nil) ns_nil)
  ns_nil)) PassesOwn.never)
  (ns_seq (ns_for (vs := [6]) (ni_tup (n_tup (n_cons n_int (n_cons n_int (n_cons n_int (n_cons (n_it hu (n_lst (n_cons n_int (n_cons n_int n_nil))) (n_call h__law_draw (n_cons (n_var 1) (n_cons n_int n_nil)) hr)) n_nil)))))) (ng_name 6 nd) (ns_seq (ns_set 7 (n_bin o_shl n_int (n_var 6)) nd)
  (ns_seq (ns_par3 4 5 8 (n_cons (n_call h__law_draw (n_cons (n_var 1) (n_cons (n_var 7) n_nil)) hr) (n_cons (n_call h__law_draw (n_cons (n_var 1) (n_cons (n_var 7) n_nil)) hr) (n_cons (n_call h__law_draw (n_cons (n_var 1) (n_cons (n_var 7) n_nil)) hr) n_nil))) nd)
  (ns_seq (ns_set 9 (n_call h_nim_product (n_cons (n_var 4) (n_cons (n_var 5) n_nil)) hr) nd)
  (ns_seq (ns_if (nt_bo (nw_or (nt_not (nt_val (n_call h__law_same (n_cons (n_call h_nim_product (n_cons (n_var 5) (n_cons (n_var 4) n_nil)) hr) (n_cons (n_var 9) n_nil)) hr))) (nw_or (nt_not (nt_ch op_le op_lt n_int (n_var 9) (n_var 7))) (nw_or1 (nt_not (nt_val (n_call h__law_same (n_cons (n_tup (n_cons (n_call h_nim_product (n_cons (n_var 4) (n_cons n_int n_nil)) hr) (n_cons (n_call h_nim_product (n_cons n_int (n_cons (n_var 5) n_nil)) hr) n_nil))) (n_cons (n_tup (n_cons (n_var 4) (n_cons n_int n_nil))) n_nil)) hr))))))) (ns_seq (ns_ret n_bl)
  ns_nil) ns_nil)
  (ns_seq (ns_if (nt_bo (nw_or (nt_cmp (c_ne hu) (n_call h_nim_product (n_cons (n_var 9) (n_cons (n_var 8) n_nil)) hr) (n_call h_nim_product (n_cons (n_var 4) (n_cons (n_call h_nim_product (n_cons (n_var 5) (n_cons (n_var 8) n_nil)) hr) n_nil)) hr)) (nw_or1 (nt_cmp (c_ne hu) (n_call h_nim_product (n_cons (n_var 4) (n_cons (n_bin o_xor (n_var 5) (n_var 8)) n_nil)) hr) (n_bin o_xor (n_var 9) (n_call h_nim_product (n_cons (n_var 4) (n_cons (n_var 8) n_nil)) hr)))))) (ns_seq (ns_ret n_bl)
  ns_nil) ns_nil)
  (ns_seq (ns_set 10 (n_call h_nim_root (n_cons (n_var 4) n_nil) hr) nd)
  (ns_seq (ns_if (nt_bo (nw_or (nt_not (nt_val (n_isi .int (n_var 10) n.n_isinstance n.n_int))) (nw_or (nt_not (nt_ch op_le op_lt n_int (n_var 10) (n_var 7))) (nw_or (nt_cmp (c_ne hu) (n_call h_nim_product (n_cons (n_var 10) (n_cons (n_var 10) n_nil)) hr) (n_var 4)) (nw_or1 (nt_not (nt_val (n_call h__law_same (n_cons (n_call h_nim_root (n_cons (n_call h_nim_product (n_cons (n_var 5) (n_cons (n_var 5) n_nil)) hr) n_nil) hr) (n_cons (n_var 5) n_nil)) hr)))))))) (ns_seq (ns_ret n_bl)
  ns_nil) ns_nil)
  (ns_seq (ns_if (nt_bo (nw_and (nt_cmp c_lt (n_var 6) n_int) (nw_and1 (nt_cmp c_gt (n_var 4) n_int)))) (ns_seq (ns_set 11 (n_call h_nim_inverse (n_cons (n_var 4) n_nil) hr) nd)
  (ns_seq (ns_if (nt_bo (nw_or (nt_not (nt_val (n_isi .int (n_var 11) n.n_isinstance n.n_int))) (nw_or (nt_not (nt_ch op_lt op_lt n_int (n_var 11) (n_var 7))) (nw_or1 (nt_cmp (c_ne hu) (n_call h_nim_product (n_cons (n_var 4) (n_cons (n_var 11) n_nil)) hr) n_int))))) (ns_seq (ns_ret n_bl)
  ns_nil) ns_nil)
  ns_nil)) ns_nil)
  ns_nil)))))))) PassesOwn.never)
  (ns_seq (ns_setLc 12 (ni_rng1 (n_cons n_int n_nil) n.n_range) (fun z => (ng_name 13 nd)) (fun z => nts_nil) (fun z => (n_bin o_shl n_int (n_bin o_shl n_int (n_var 13)))) nd (blkOk_by (own := [("k", 13)]) (by kernel_rfl)))
  (ns_seq (ns_par2 14 15 (n_cons (n_call h__law_draw (n_cons (n_var 1) (n_cons n_int n_nil)) hr) (n_cons (n_call h__law_draw (n_cons (n_var 1) (n_cons n_int n_nil)) hr) n_nil)) nd)
  (ns_seq (ns_set 16 (n_it hu (n_var 12) (n_var 14)) nd)
  (ns_seq (ns_if (nt_not (nt_val (n_call h__law_same (n_cons (n_call h_nim_product (n_cons (n_var 16) (n_cons (n_var 16) n_nil)) hr) (n_cons (n_bin o_add (n_var 16) (n_bin o_div (n_var 16) n_int)) n_nil)) hr))) (ns_seq (ns_ret n_bl)
  ns_nil) ns_nil)
  (ns_seq (ns_if (nt_bo (nw_and (nt_cmp (c_ne hu) (n_var 14) (n_var 15)) (nw_and1 (nt_not (nt_val (n_call h__law_same (n_cons (n_call h_nim_product (n_cons (n_var 16) (n_cons (n_it hu (n_var 12) (n_var 15)) n_nil)) hr) (n_cons (n_bin o_mul (n_var 16) (n_it hu (n_var 12) (n_var 15))) n_nil)) hr)))))) (ns_seq (ns_ret n_bl)
  ns_nil) ns_nil)
  (ns_seq (ns_set 4 (n_call h__law_draw (n_cons (n_var 1) (n_cons (n_var 16) n_nil)) hr) nd)
  (ns_seq (ns_ret (n_and (n_call h__law_same (n_cons (n_call h_nim_product (n_cons (n_var 16) (n_cons (n_var 4) n_nil)) hr) (n_cons (n_bin o_mul (n_var 16) (n_var 4)) n_nil)) hr) (n_and (n_call0 h__law_refused hr) (n_one (n_call h__law_same (n_cons (n_tup (n_cons (n_call h_nim_inverse (n_cons n_int n_nil) hr) (n_cons (n_call h_nim_inverse (n_cons n_int n_nil) hr) (n_cons (n_call h_nim_inverse (n_cons n_int n_nil) hr) n_nil)))) (n_cons (n_tup (n_cons n_int (n_cons n_int (n_cons n_int n_nil)))) n_nil)) hr)))))
  ns_nil)))))))))))) run
end T61

namespace N
open PySem L2 PyProof.Rows

noncomputable def sd (M : List (List Nat)) : List PyData := Z.srt (Z.dd (M.map tup))
theorem srt_sd {L M : List (List Nat)} (nd : L.Nodup) (h : ∀ r, r ∈ L ↔ r ∈ M) : Z.srt (L.map tup) = sd M := by
  unfold sd
  refine Z.srt_eq (srtOk_tup L).al ((List.perm_ext_iff_of_nodup ?_ (dd_nodup _)).mpr fun x => ?_)
  · exact List.Pairwise.map tup (fun a b h e => h (tup_inj e)) nd
  · rw [Z.dd_mem, List.mem_map, List.mem_map]
    constructor
    · rintro ⟨r, h1, rfl⟩; exact ⟨r, (h r).mp h1, rfl⟩
    · rintro ⟨r, h1, rfl⟩; exact ⟨r, (h r).mpr h1, rfl⟩
theorem tup_map_inj {a b : List (List Nat)} (h : a.map tup = b.map tup) : a = b := by
  induction a generalizing b with
  | nil => cases b with
    | nil => rfl
    | cons y b => cases h
  | cons x a ih => cases b with
    | nil => cases h
    | cons y b =>
      rw [List.map_cons, List.map_cons] at h
      injection h with h1 h2
      rw [tup_inj h1, ih h2]
theorem sd_eq {L M : List (List Nat)} (nd : L.Nodup) (h : ∀ r, r ∈ L ↔ r ∈ M) : sd L = sd M := (srt_sd nd fun _ => Iff.rfl).symm.trans (srt_sd nd h)
/-- a row of rows in order, each once -/
structure Canon (H : List (List Nat)) : Prop where
  nd : H.Nodup
  so : sd H = H.map tup
theorem Canon.eq {A B : List (List Nat)} (a : Canon A) (b : Canon B) (h : ∀ r, r ∈ A ↔ r ∈ B) : A = B := tup_map_inj (by rw [← a.so, ← b.so, sd_eq a.nd h])
section
variable {α : Type} [DecidableEq α] (kf : α → PyData) (vf : α → D)
def DG (M : List α) : List (PyData × D) := M.map fun a => (kf a, vf a)
variable {kf vf}
theorem has_DG (inj : ∀ a b, kf a = kf b → a = b) (M : List α) (a : α) : dHas (DG kf vf M) (kf a) = decide (a ∈ M) := by
  rw [Bool.eq_iff_iff, decide_eq_true_eq]
  unfold dHas DG
  simp only [List.any_map, List.any_eq_true, Function.comp, decide_eq_true_eq]
  exact ⟨fun ⟨x, h1, h2⟩ => inj _ _ h2 ▸ h1, fun h1 => ⟨a, h1, rfl⟩⟩
theorem get_DG (inj : ∀ a b, kf a = kf b → a = b) {M : List α} {a : α} (hm : a ∈ M) : dGet (DG kf vf M) (kf a) = some (vf a) := by
  unfold dGet DG
  induction M with
  | nil => cases hm
  | cons x M ih =>
    rw [List.map_cons, List.find?_cons]
    by_cases e : x = a
    · subst e
      simp
    · have : decide (kf x = kf a) = false := decide_eq_false fun h => e (inj _ _ h)
      simp only [this]
      exact ih (by
        rcases List.mem_cons.mp hm with r | r
        · exact (e r.symm).elim
        · exact r)
theorem put_DG (inj : ∀ a b, kf a = kf b → a = b) (M : List α) (a : α) : dPut (DG kf vf M) (kf a) (vf a) = DG kf vf (if a ∈ M then M else M ++ [a]) := by
  unfold dPut
  rw [has_DG inj]
  by_cases hm : a ∈ M
  · rw [if_pos hm, decide_eq_true hm, if_pos rfl]
    unfold DG
    rw [List.map_map]
    refine List.map_congr_left fun x hx => ?_
    simp only [Function.comp]
    split
    · rename_i e
      rw [inj _ _ e]
    · rfl
  · rw [if_neg hm, decide_eq_false hm, if_neg (by simp)]
    unfold DG
    rw [List.map_append]
    rfl
end
section
variable {α : Type} [DecidableEq α] (g : α → Nat)
variable {g}
end
def KS (ns : List Nat) (kvs : List (Key × D)) : Prop := (∀ k : Nat, kHas kvs (.inl (k : Int)) = decide (k ∈ ns)) ∧ kvs.length ≤ ns.length
theorem KS.nil : KS [] [] := ⟨fun k => by simp [kHas], by simp⟩
theorem KS.put {ns : List Nat} {kvs : List (Key × D)} (h : KS ns kvs) (v : Nat) (d : D) : KS (ns ++ [v]) (kPut kvs (.inl (v : Int)) d) := by
  refine ⟨fun k => ?_, ?_⟩
  · rw [Bool.eq_iff_iff, kHas_put, h.1, decide_eq_true_eq, decide_eq_true_eq, List.mem_append, List.mem_singleton]
    constructor
    · rintro (e | e)
      · right
        simp at e
        omega
      · exact .inl e
    · rintro (e | e)
      · exact .inr e
      · exact .inl (by rw [e])
  · have := @kPut_len kvs (.inl (v : Int)) d
    have := h.2
    rw [List.length_append]
    simp
    omega
theorem KS.cin {ns : List Nat} {kvs : List (Key × D)} (h : KS ns kvs) {s : Sto} {j : Nat} (hj : s[j]? = some (.dk kvs)) (k : Nat) : cIn false s (.d (.int (k : Nat))) (.r j) = some (decide (k ∈ ns)) := by
  rw [v_inK (kvs := kvs) (k := .inl (k : Nat)) hj rfl, if_neg Bool.false_ne_true, h.1]
theorem trim_sa {s t : Sto} {j : Nat} {c : Cell} (hj : j < s.length) (h : c.below s.length) : trim s (s.set j c ++ t) = s.set j c := by
  rw [← List.set_append_left (h := hj)]
  exact trim_set h
theorem DG_below {α : Type} (kf : α → PyData) (f : α → PyData) (M : List α) (n : Nat) : (Cell.dic (DG kf (fun a => .d (f a)) M)).below n := fun k j h => by
  obtain ⟨x, _, e⟩ := List.mem_map.mp h
  simp at e
end N

namespace T61
open PySem L2 PyProof.Rows N
open NF (np)

theorem shrN (a k : Nat) (s : Sto) : oShr s (.d (.int (a : Nat))) (.d (.int (k : Nat))) = some (.d (.int ((a / 2 ^ k : Nat) : Nat)), s) := by
  simp [oShr, i2]
theorem shlN {a : Nat} (ha : a < 2 ^ 64) {k : Nat} (hk : k ≤ 1000000) (s : Sto) : oShl s (.d (.int (a : Nat))) (.d (.int (k : Nat))) = some (.d (.int ((a * 2 ^ k : Nat) : Nat)), s) := by
  unfold oShl i2
  simp only []
  rw [if_pos (by omega)]
  simp
theorem sh1 {k : Nat} (hk : k ≤ 1000) (s : Sto) : oShl s (.d (.int 1)) (.d (.int (k : Nat))) = some (.d (.int ((2 ^ k : Nat) : Nat)), s) := by
  have := shlN (a := 1) (by decide) (k := k) (by omega) s
  rw [Nat.one_mul] at this
  exact this
theorem andN (a b : Nat) (s : Sto) : oAnd s (.d (.int (a : Nat))) (.d (.int (b : Nat))) = some (.d (.int ((a &&& b : Nat) : Nat)), s) := by
  unfold oAnd i2
  simp only []
  rw [bitAnd_pp (by omega) (by omega)]
  rfl
theorem mulS2 (a : Int) (s : Sto) : oMulS s (.d (.int a)) (.d (.int 2)) = some (.d (.int (a * 2)), s) := by
  unfold oMulS i2
  simp
/-- the level of a number below 2 ^ 64 -/
def lv (a : Nat) : Nat := if a < 2 then 0 else if a < 4 then 1 else if a < 16 then 2 else if a < 256 then 3 else if a < 65536 then 4 else if a < 4294967296 then 5 else 6
theorem tw : ∀ j ≤ 6, 2 ^ 2 ^ j = [2, 4, 16, 256, 65536, 4294967296, 18446744073709551616].getD j 0 := by decide
theorem lv_ok {a : Nat} (h : a < 2 ^ 64) : lv a ≤ 6 ∧ a < 2 ^ 2 ^ lv a := by
  unfold lv
  split
  · exact ⟨by decide, by rw [tw 0 (by decide)]; assumption⟩
  split
  · exact ⟨by decide, by rw [tw 1 (by decide)]; assumption⟩
  split
  · exact ⟨by decide, by rw [tw 2 (by decide)]; assumption⟩
  split
  · exact ⟨by decide, by rw [tw 3 (by decide)]; assumption⟩
  split
  · exact ⟨by decide, by rw [tw 4 (by decide)]; assumption⟩
  split
  · exact ⟨by decide, by rw [tw 5 (by decide)]; assumption⟩
  exact ⟨by decide, h⟩
theorem lv_at {a j : Nat} (hj : j ≤ 6) (h1 : j = 0 ∨ 2 ^ 2 ^ (j - 1) ≤ a) (h2 : a < 2 ^ 2 ^ j) : lv a = j := by
  have : j = 0 ∨ j = 1 ∨ j = 2 ∨ j = 3 ∨ j = 4 ∨ j = 5 ∨ j = 6 := by omega
  rcases this with rfl | rfl | rfl | rfl | rfl | rfl | rfl <;> (unfold lv; simp at h1 h2; first | (rw [if_pos (by omega)]; done) | (rw [if_neg (by omega), if_pos (by omega)]; done) | (rw [if_neg (by omega), if_neg (by omega), if_pos (by omega)]; done) | (rw [if_neg (by omega), if_neg (by omega), if_neg (by omega), if_pos (by omega)]; done) | (rw [if_neg (by omega), if_neg (by omega), if_neg (by omega), if_neg (by omega), if_pos (by omega)]; done) | (rw [if_neg (by omega), if_neg (by omega), if_neg (by omega), if_neg (by omega), if_neg (by omega), if_pos (by omega)]; done) | rw [if_neg (by omega), if_neg (by omega), if_neg (by omega), if_neg (by omega), if_neg (by omega), if_neg (by omega)])
theorem lv_le {a j : Nat} (hj : j ≤ 6) (h2 : a < 2 ^ 2 ^ j) : lv a ≤ j := by
  have : j = 0 ∨ j = 1 ∨ j = 2 ∨ j = 3 ∨ j = 4 ∨ j = 5 ∨ j = 6 := by omega
  rcases this with rfl | rfl | rfl | rfl | rfl | rfl | rfl <;> (simp at h2; unfold lv; repeat' split) <;> omega
theorem level_ok {a : Nat} (ha : a < 2 ^ 64) (s : Sto) : m_level_of s [.d (.int (a : Nat))] = some (.d (.int ((2 ^ lv a : Nat) : Nat)), s) := by
  apply R.eq
  unfold m_level_of b_level_of
  simp [R_fn]
  refine Rs_while (fun m e s' => s' = s ∧ ∃ j : Nat, m + j = 6 ∧ (j = 0 ∨ 2 ^ 2 ^ (j - 1) ≤ a) ∧ e = [some (.d (.int (a : Nat))), some (.d (.int ((2 ^ j : Nat) : Nat)))]) (m := 6) (by omega) ⟨rfl, 0, by omega, .inl rfl, by simp⟩ (fun m e s' hi => ?_)
  obtain ⟨rfl, j, h1, h2, rfl⟩ := hi
  simp only [R_tVal, R_bin, R_Var, List.getElem?_cons_succ, List.getElem?_cons_zero, R_some, shrN]
  refine ⟨decide (a / 2 ^ 2 ^ j ≠ 0), ?_, fun h => ?_, fun h => ?_⟩
  · rw [tru_i]
    refine congrArg some ?_
    generalize a / 2 ^ 2 ^ j = x
    rw [Bool.eq_iff_iff]
    simp
  · have h := of_decide_eq_false h
    have : a < 2 ^ 2 ^ j := by
      have h := Classical.not_not.mp h
      rcases Nat.div_eq_zero_iff.mp h with h | h
      · have := Nat.two_pow_pos (2 ^ j); omega
      · exact h
    rw [← lv_at (by omega) h2 this]
    simp [R_retd]
  · have h := of_decide_eq_true h
    have hle : 2 ^ 2 ^ j ≤ a := by
      refine Classical.byContradiction fun hc => h (Nat.div_eq_of_lt (by omega))
    have hj6 : j < 6 := by
      refine Classical.byContradiction fun hc => ?_
      have : j = 6 := by omega
      subst this
      omega
    rw [Rs_seq, Rs_aug]
    simp only [List.getElem?_cons_succ, List.getElem?_cons_zero, R_C, mulS2, R_some, List.set_cons_succ, List.set_cons_zero]
    rw [thn_nx, Rs_nil, aft_nx, trimE_len rfl]
    refine ⟨m - 1, by omega, rfl, j + 1, by omega, .inr (by simpa using hle), ?_⟩
    simp [wipeN, Int.pow_succ]
/-- half a level, as the program has it -/
theorem hf_at {a b j : Nat} (hj : j ≤ 6) (ha : a < 2 ^ 2 ^ j) (hb : b < 2 ^ 2 ^ j) (h2 : 2 ≤ a) : ∃ i < j, 2 ^ lv (max a b) / 2 = 2 ^ i ∧ a < 2 ^ 2 ^ (i + 1) ∧ b < 2 ^ 2 ^ (i + 1) := by
  have h64 : 2 ^ 2 ^ j ≤ 2 ^ 2 ^ 6 := NF.top_le hj
  have e64 : (2 : Nat) ^ 2 ^ 6 = 2 ^ 64 := rfl
  have hm : max a b < 2 ^ 2 ^ j := by omega
  have l1 := lv_le hj hm
  have l2 := (lv_ok (a := max a b) (by omega)).2
  have l3 : lv (max a b) ≠ 0 := fun h => by
    rw [h] at l2
    have : 2 ^ 2 ^ 0 = 2 := rfl
    omega
  refine ⟨lv (max a b) - 1, by omega, ?_, ?_, ?_⟩
  · obtain ⟨t, ht⟩ : ∃ t, lv (max a b) = t + 1 := ⟨lv (max a b) - 1, by omega⟩
    rw [ht, Nat.pow_succ, Nat.mul_div_cancel _ (by decide), Nat.add_sub_cancel]
  · rw [Nat.sub_add_cancel (by omega)]; omega
  · rw [Nat.sub_add_cancel (by omega)]; omega
theorem prod_ok : ∀ (f j : Nat), j < f → j ≤ 6 → ∀ a b, a < 2 ^ 2 ^ j → b < 2 ^ 2 ^ j → ∀ s : Sto, m_nim_product f s [.d (.int (a : Nat)), .d (.int (b : Nat))] = some (.d (.int (np j a b : Nat)), s)
  | 0, j, h, _, _, _, _, _, _ => absurd h (by omega)
  | f + 1, j, hf1, hj, a, b, ha, hb, s => by
    have ih := prod_ok f
    have h64 : 2 ^ 2 ^ j ≤ 2 ^ 2 ^ 6 := NF.top_le hj
    have e64 : (2 : Nat) ^ 2 ^ 6 = 2 ^ 64 := rfl
    apply R.eq
    unfold m_nim_product b_nim_product
    rw [R_fn]
    refine ⟨rfl, ?_⟩
    simp only [List.map_cons, List.map_nil, List.cons_append, List.nil_append, List.length_cons, List.length_nil, Nat.reduceSub, Nat.reduceAdd, List.replicate_succ, List.replicate_zero]
    have d1 : decide (((a : Nat) : Int) < 2) = decide (a < 2) := decide_eq_decide.mpr (by omega)
    have d2 : decide (((b : Nat) : Int) < 2) = decide (b < 2) := decide_eq_decide.mpr (by omega)
    have mul0 : ∀ s, oMul s (.d (.int (a : Nat))) (.d (.int (b : Nat))) = some (.d (.int ((a * b : Nat) : Nat)), s) := fun s => by
      rw [v_mulS (by omega) (by omega)]
      rfl
    rw [Rs_seq, Rs_if]
    simp only [Rs_nil, R_call, R_cons, R_nil, R_Var, R_C, R_bin, R_cmp, R_tcmp, R_tOr, R_tAnd, R_tNot, R_tVal, R_tTrue, R_ite, R_eAnd, R_eOr, R_eNot, R_neg, R_tup, R_isi, R_some, Rc_some, N.v_eq, N.v_ne, N.v_lt, N.v_le, N.v_gt, N.v_ge, N.v_add, N.v_sub, N.v_iadd, N.v_xor, N.v_int, N.tru_b, N.pd_d, N.data_nil, N.data_cons, N.len_t, N.v_tupT, N.g_name, N.isNone_n, N.isNone_t, N.isNone_i, N.v_isN, N.v_isNn, N.v_eqB, N.v_neB, List.set_cons_succ, List.set_cons_zero, List.getElem?_cons_succ, List.getElem?_cons_zero, Bool.not_true, Bool.not_false, Bool.false_eq_true, Bool.true_eq_false, eq_self, true_implies, false_implies, true_and, and_true, decide_true, decide_false, Int.zero_add, N.R_sl, N.R_it, R_oNone, R_oSome, wipeN, N.R_lst, N.R_mkF, N.R_mkT, N.R_meth, N.v_addT, Ri_rng1, Ri_rng2, Ri_seq, d1, d2]
    by_cases h0 : a < 2 ∨ b < 2
    · have e0 : np j a b = a * b := NF.np_small ha hb h0
      rw [e0]
      refine ⟨fun q => ⟨fun q2 => ?_, fun q2 => ?_⟩, fun q => ?_⟩
      · rw [Rs_seq, Rs_ret]
        simp only [Rs_nil, R_call, R_cons, R_nil, R_Var, R_C, R_bin, R_cmp, R_tcmp, R_tOr, R_tAnd, R_tNot, R_tVal, R_tTrue, R_ite, R_eAnd, R_eOr, R_eNot, R_neg, R_tup, R_isi, R_some, Rc_some, N.v_eq, N.v_ne, N.v_lt, N.v_le, N.v_gt, N.v_ge, N.v_add, N.v_sub, N.v_iadd, N.v_xor, N.v_int, N.tru_b, N.pd_d, N.data_nil, N.data_cons, N.len_t, N.v_tupT, N.g_name, N.isNone_n, N.isNone_t, N.isNone_i, N.v_isN, N.v_isNn, N.v_eqB, N.v_neB, List.set_cons_succ, List.set_cons_zero, List.getElem?_cons_succ, List.getElem?_cons_zero, Bool.not_true, Bool.not_false, Bool.false_eq_true, Bool.true_eq_false, eq_self, true_implies, false_implies, true_and, and_true, decide_true, decide_false, Int.zero_add, N.R_sl, N.R_it, R_oNone, R_oSome, wipeN, N.R_lst, N.R_mkF, N.R_mkT, N.R_meth, N.v_addT, Ri_rng1, Ri_rng2, Ri_seq, mul0]
        simp [R_retd]
      · have q := of_decide_eq_false q
        have q2 := of_decide_eq_false q2
        omega
      · rw [Rs_seq, Rs_ret]
        simp only [Rs_nil, R_call, R_cons, R_nil, R_Var, R_C, R_bin, R_cmp, R_tcmp, R_tOr, R_tAnd, R_tNot, R_tVal, R_tTrue, R_ite, R_eAnd, R_eOr, R_eNot, R_neg, R_tup, R_isi, R_some, Rc_some, N.v_eq, N.v_ne, N.v_lt, N.v_le, N.v_gt, N.v_ge, N.v_add, N.v_sub, N.v_iadd, N.v_xor, N.v_int, N.tru_b, N.pd_d, N.data_nil, N.data_cons, N.len_t, N.v_tupT, N.g_name, N.isNone_n, N.isNone_t, N.isNone_i, N.v_isN, N.v_isNn, N.v_eqB, N.v_neB, List.set_cons_succ, List.set_cons_zero, List.getElem?_cons_succ, List.getElem?_cons_zero, Bool.not_true, Bool.not_false, Bool.false_eq_true, Bool.true_eq_false, eq_self, true_implies, false_implies, true_and, and_true, decide_true, decide_false, Int.zero_add, N.R_sl, N.R_it, R_oNone, R_oSome, wipeN, N.R_lst, N.R_mkF, N.R_mkT, N.R_meth, N.v_addT, Ri_rng1, Ri_rng2, Ri_seq, mul0]
        simp [R_retd]
    · refine ⟨fun q => ⟨fun q2 => ?_, fun q2 => ?_⟩, fun q => ?_⟩
      · have := of_decide_eq_true q2
        omega
      · clear q q2
        obtain ⟨i, hi, eh, a1, b1⟩ := hf_at hj ha hb (by omega)
        rw [NF.np_le (by omega : i + 1 ≤ j) a1 b1, NF.np_step a1 b1]
        have hh : i ≤ 5 := by omega
        have ihi := fun a b ha hb s => ih i (by omega) (by omega) a b ha hb s
        have hp := Nat.two_pow_pos (2 ^ i)
        have r1 : a / 2 ^ 2 ^ i < 2 ^ 2 ^ i := Nat.div_lt_of_lt_mul (by rw [← NF.top_succ]; exact a1)
        have r2 : b / 2 ^ 2 ^ i < 2 ^ 2 ^ i := Nat.div_lt_of_lt_mul (by rw [← NF.top_succ]; exact b1)
        have r3 := Nat.mod_lt a hp
        have r4 := Nat.mod_lt b hp
        have h5 : 2 ^ i ≤ 2 ^ 5 := Nat.pow_le_pow_right (by decide) hh
        have h32 : 2 ^ 2 ^ i ≤ 2 ^ 2 ^ 5 := NF.top_le hh
        have e32 : (2 : Nat) ^ 2 ^ 5 = 2 ^ 32 := rfl
        have r5 : 2 ^ (2 ^ i - 1) < 2 ^ 2 ^ i := Nat.pow_lt_pow_right (by decide) (by have := Nat.two_pow_pos i; omega)
        have mx : mx2 (a : Int) (b : Int) = ((max a b : Nat) : Int) := by unfold mx2; split <;> omega
        have vm : ∀ s, bMax2 s [.d (.int (a : Nat)), .d (.int (b : Nat))] = some (.d (.int (mx2 (a : Nat) (b : Nat))), s) := fun s => rfl
        have lvv := level_ok (a := max a b) (by omega)
        have am : a &&& (2 ^ 2 ^ i - 1) = a % 2 ^ 2 ^ i := Nat.and_two_pow_sub_one_eq_mod a (2 ^ i)
        have bm : b &&& (2 ^ 2 ^ i - 1) = b % 2 ^ 2 ^ i := Nat.and_two_pow_sub_one_eq_mod b (2 ^ i)
        have g1 : ((2 ^ lv (max a b) : Nat) : Int) / 2 = ((2 ^ i : Nat) : Int) := by rw [← eh]; omega
        have hpos := Nat.two_pow_pos i
        generalize hx : 2 ^ i = h at *
        rw [thn_nx, Rs_seq, Rs_set]
        simp only [Rs_nil, R_call, R_cons, R_nil, R_Var, R_C, R_bin, R_cmp, R_tcmp, R_tOr, R_tAnd, R_tNot, R_tVal, R_tTrue, R_ite, R_eAnd, R_eOr, R_eNot, R_neg, R_tup, R_isi, R_some, Rc_some, N.v_eq, N.v_ne, N.v_lt, N.v_le, N.v_gt, N.v_ge, N.v_add, N.v_sub, N.v_iadd, N.v_xor, N.v_int, N.tru_b, N.pd_d, N.data_nil, N.data_cons, N.len_t, N.v_tupT, N.g_name, N.isNone_n, N.isNone_t, N.isNone_i, N.v_isN, N.v_isNn, N.v_eqB, N.v_neB, List.set_cons_succ, List.set_cons_zero, List.getElem?_cons_succ, List.getElem?_cons_zero, Bool.not_true, Bool.not_false, Bool.false_eq_true, Bool.true_eq_false, eq_self, true_implies, false_implies, true_and, and_true, decide_true, decide_false, Int.zero_add, N.R_sl, N.R_it, R_oNone, R_oSome, wipeN, N.R_lst, N.R_mkF, N.R_mkT, N.R_meth, N.v_addT, Ri_rng1, Ri_rng2, Ri_seq, vm, mx, lvv]
        rw [v_div (show (0 : Int) < 2 by decide) (by decide), g1]
        simp only [Rs_nil, R_call, R_cons, R_nil, R_Var, R_C, R_bin, R_cmp, R_tcmp, R_tOr, R_tAnd, R_tNot, R_tVal, R_tTrue, R_ite, R_eAnd, R_eOr, R_eNot, R_neg, R_tup, R_isi, R_some, Rc_some, N.v_eq, N.v_ne, N.v_lt, N.v_le, N.v_gt, N.v_ge, N.v_add, N.v_sub, N.v_iadd, N.v_xor, N.v_int, N.tru_b, N.pd_d, N.data_nil, N.data_cons, N.len_t, N.v_tupT, N.g_name, N.isNone_n, N.isNone_t, N.isNone_i, N.v_isN, N.v_isNn, N.v_eqB, N.v_neB, List.set_cons_succ, List.set_cons_zero, List.getElem?_cons_succ, List.getElem?_cons_zero, Bool.not_true, Bool.not_false, Bool.false_eq_true, Bool.true_eq_false, eq_self, true_implies, false_implies, true_and, and_true, decide_true, decide_false, Int.zero_add, N.R_sl, N.R_it, R_oNone, R_oSome, wipeN, N.R_lst, N.R_mkF, N.R_mkT, N.R_meth, N.v_addT, Ri_rng1, Ri_rng2, Ri_seq]
        rw [thn_nx, Rs_seq, Rs_set]
        simp only [Rs_nil, R_call, R_cons, R_nil, R_Var, R_C, R_bin, R_cmp, R_tcmp, R_tOr, R_tAnd, R_tNot, R_tVal, R_tTrue, R_ite, R_eAnd, R_eOr, R_eNot, R_neg, R_tup, R_isi, R_some, Rc_some, N.v_eq, N.v_ne, N.v_lt, N.v_le, N.v_gt, N.v_ge, N.v_add, N.v_sub, N.v_iadd, N.v_xor, N.v_int, N.tru_b, N.pd_d, N.data_nil, N.data_cons, N.len_t, N.v_tupT, N.g_name, N.isNone_n, N.isNone_t, N.isNone_i, N.v_isN, N.v_isNn, N.v_eqB, N.v_neB, List.set_cons_succ, List.set_cons_zero, List.getElem?_cons_succ, List.getElem?_cons_zero, Bool.not_true, Bool.not_false, Bool.false_eq_true, Bool.true_eq_false, eq_self, true_implies, false_implies, true_and, and_true, decide_true, decide_false, Int.zero_add, N.R_sl, N.R_it, R_oNone, R_oSome, wipeN, N.R_lst, N.R_mkF, N.R_mkT, N.R_meth, N.v_addT, Ri_rng1, Ri_rng2, Ri_seq, sh1 (show h ≤ 1000 by omega)]
        rw [show ((2 ^ h : Nat) : Int) - 1 = ((2 ^ h - 1 : Nat) : Int) by omega]
        rw [thn_nx, Rs_seq, Rs_par]
        simp only [Rs_nil, R_call, R_cons, R_nil, R_Var, R_C, R_bin, R_cmp, R_tcmp, R_tOr, R_tAnd, R_tNot, R_tVal, R_tTrue, R_ite, R_eAnd, R_eOr, R_eNot, R_neg, R_tup, R_isi, R_some, Rc_some, N.v_eq, N.v_ne, N.v_lt, N.v_le, N.v_gt, N.v_ge, N.v_add, N.v_sub, N.v_iadd, N.v_xor, N.v_int, N.tru_b, N.pd_d, N.data_nil, N.data_cons, N.len_t, N.v_tupT, N.g_name, N.isNone_n, N.isNone_t, N.isNone_i, N.v_isN, N.v_isNn, N.v_eqB, N.v_neB, List.set_cons_succ, List.set_cons_zero, List.getElem?_cons_succ, List.getElem?_cons_zero, Bool.not_true, Bool.not_false, Bool.false_eq_true, Bool.true_eq_false, eq_self, true_implies, false_implies, true_and, and_true, decide_true, decide_false, Int.zero_add, N.R_sl, N.R_it, R_oNone, R_oSome, wipeN, N.R_lst, N.R_mkF, N.R_mkT, N.R_meth, N.v_addT, Ri_rng1, Ri_rng2, Ri_seq, shrN, andN, am]
        refine ⟨by simp, ?_⟩
        simp only [List.zip_cons_cons, List.zip_nil_right, List.foldl_cons, List.foldl_nil, List.set_cons_succ, List.set_cons_zero]
        rw [thn_nx, Rs_seq, Rs_par]
        simp only [Rs_nil, R_call, R_cons, R_nil, R_Var, R_C, R_bin, R_cmp, R_tcmp, R_tOr, R_tAnd, R_tNot, R_tVal, R_tTrue, R_ite, R_eAnd, R_eOr, R_eNot, R_neg, R_tup, R_isi, R_some, Rc_some, N.v_eq, N.v_ne, N.v_lt, N.v_le, N.v_gt, N.v_ge, N.v_add, N.v_sub, N.v_iadd, N.v_xor, N.v_int, N.tru_b, N.pd_d, N.data_nil, N.data_cons, N.len_t, N.v_tupT, N.g_name, N.isNone_n, N.isNone_t, N.isNone_i, N.v_isN, N.v_isNn, N.v_eqB, N.v_neB, List.set_cons_succ, List.set_cons_zero, List.getElem?_cons_succ, List.getElem?_cons_zero, Bool.not_true, Bool.not_false, Bool.false_eq_true, Bool.true_eq_false, eq_self, true_implies, false_implies, true_and, and_true, decide_true, decide_false, Int.zero_add, N.R_sl, N.R_it, R_oNone, R_oSome, wipeN, N.R_lst, N.R_mkF, N.R_mkT, N.R_meth, N.v_addT, Ri_rng1, Ri_rng2, Ri_seq, shrN, andN, bm]
        refine ⟨by simp, ?_⟩
        simp only [List.zip_cons_cons, List.zip_nil_right, List.foldl_cons, List.foldl_nil, List.set_cons_succ, List.set_cons_zero]
        rw [thn_nx, Rs_seq, Rs_set]
        simp only [Rs_nil, R_call, R_cons, R_nil, R_Var, R_C, R_bin, R_cmp, R_tcmp, R_tOr, R_tAnd, R_tNot, R_tVal, R_tTrue, R_ite, R_eAnd, R_eOr, R_eNot, R_neg, R_tup, R_isi, R_some, Rc_some, N.v_eq, N.v_ne, N.v_lt, N.v_le, N.v_gt, N.v_ge, N.v_add, N.v_sub, N.v_iadd, N.v_xor, N.v_int, N.tru_b, N.pd_d, N.data_nil, N.data_cons, N.len_t, N.v_tupT, N.g_name, N.isNone_n, N.isNone_t, N.isNone_i, N.v_isN, N.v_isNn, N.v_eqB, N.v_neB, List.set_cons_succ, List.set_cons_zero, List.getElem?_cons_succ, List.getElem?_cons_zero, Bool.not_true, Bool.not_false, Bool.false_eq_true, Bool.true_eq_false, eq_self, true_implies, false_implies, true_and, and_true, decide_true, decide_false, Int.zero_add, N.R_sl, N.R_it, R_oNone, R_oSome, wipeN, N.R_lst, N.R_mkF, N.R_mkT, N.R_meth, N.v_addT, Ri_rng1, Ri_rng2, Ri_seq, ihi _ _ r3 r4]
        rw [thn_nx, Rs_seq, Rs_set]
        simp only [Rs_nil, R_call, R_cons, R_nil, R_Var, R_C, R_bin, R_cmp, R_tcmp, R_tOr, R_tAnd, R_tNot, R_tVal, R_tTrue, R_ite, R_eAnd, R_eOr, R_eNot, R_neg, R_tup, R_isi, R_some, Rc_some, N.v_eq, N.v_ne, N.v_lt, N.v_le, N.v_gt, N.v_ge, N.v_add, N.v_sub, N.v_iadd, N.v_xor, N.v_int, N.tru_b, N.pd_d, N.data_nil, N.data_cons, N.len_t, N.v_tupT, N.g_name, N.isNone_n, N.isNone_t, N.isNone_i, N.v_isN, N.v_isNn, N.v_eqB, N.v_neB, List.set_cons_succ, List.set_cons_zero, List.getElem?_cons_succ, List.getElem?_cons_zero, Bool.not_true, Bool.not_false, Bool.false_eq_true, Bool.true_eq_false, eq_self, true_implies, false_implies, true_and, and_true, decide_true, decide_false, Int.zero_add, N.R_sl, N.R_it, R_oNone, R_oSome, wipeN, N.R_lst, N.R_mkF, N.R_mkT, N.R_meth, N.v_addT, Ri_rng1, Ri_rng2, Ri_seq, ihi _ _ r1 r2]
        rw [thn_nx, Rs_seq, Rs_set]
        simp only [Rs_nil, R_call, R_cons, R_nil, R_Var, R_C, R_bin, R_cmp, R_tcmp, R_tOr, R_tAnd, R_tNot, R_tVal, R_tTrue, R_ite, R_eAnd, R_eOr, R_eNot, R_neg, R_tup, R_isi, R_some, Rc_some, N.v_eq, N.v_ne, N.v_lt, N.v_le, N.v_gt, N.v_ge, N.v_add, N.v_sub, N.v_iadd, N.v_xor, N.v_int, N.tru_b, N.pd_d, N.data_nil, N.data_cons, N.len_t, N.v_tupT, N.g_name, N.isNone_n, N.isNone_t, N.isNone_i, N.v_isN, N.v_isNn, N.v_eqB, N.v_neB, List.set_cons_succ, List.set_cons_zero, List.getElem?_cons_succ, List.getElem?_cons_zero, Bool.not_true, Bool.not_false, Bool.false_eq_true, Bool.true_eq_false, eq_self, true_implies, false_implies, true_and, and_true, decide_true, decide_false, Int.zero_add, N.R_sl, N.R_it, R_oNone, R_oSome, wipeN, N.R_lst, N.R_mkF, N.R_mkT, N.R_meth, N.v_addT, Ri_rng1, Ri_rng2, Ri_seq, bitXor_nat, ihi _ _ (Nat.xor_lt_two_pow r1 r3) (Nat.xor_lt_two_pow r2 r4)]
        have hmix := Nat.xor_lt_two_pow (show np i ((a / 2 ^ h) ^^^ (a % 2 ^ h)) ((b / 2 ^ h) ^^^ (b % 2 ^ h)) < 2 ^ h by rw [← hx]; exact NF.np_lt _ _ _) (show np i (a % 2 ^ h) (b % 2 ^ h) < 2 ^ h by rw [← hx]; exact NF.np_lt _ _ _)
        have hhi : np i (a / 2 ^ h) (b / 2 ^ h) < 2 ^ h := by rw [← hx]; exact NF.np_lt _ _ _
        rw [thn_nx, Rs_seq, Rs_ret]
        simp only [Rs_nil, R_call, R_cons, R_nil, R_Var, R_C, R_bin, R_cmp, R_tcmp, R_tOr, R_tAnd, R_tNot, R_tVal, R_tTrue, R_ite, R_eAnd, R_eOr, R_eNot, R_neg, R_tup, R_isi, R_some, Rc_some, N.v_eq, N.v_ne, N.v_lt, N.v_le, N.v_gt, N.v_ge, N.v_add, N.v_sub, N.v_iadd, N.v_xor, N.v_int, N.tru_b, N.pd_d, N.data_nil, N.data_cons, N.len_t, N.v_tupT, N.g_name, N.isNone_n, N.isNone_t, N.isNone_i, N.v_isN, N.v_isNn, N.v_eqB, N.v_neB, List.set_cons_succ, List.set_cons_zero, List.getElem?_cons_succ, List.getElem?_cons_zero, Bool.not_true, Bool.not_false, Bool.false_eq_true, Bool.true_eq_false, eq_self, true_implies, false_implies, true_and, and_true, decide_true, decide_false, Int.zero_add, N.R_sl, N.R_it, R_oNone, R_oSome, wipeN, N.R_lst, N.R_mkF, N.R_mkT, N.R_meth, N.v_addT, Ri_rng1, Ri_rng2, Ri_seq]
        rw [shlN (by omega) (by omega)]
        simp only [Rs_nil, R_call, R_cons, R_nil, R_Var, R_C, R_bin, R_cmp, R_tcmp, R_tOr, R_tAnd, R_tNot, R_tVal, R_tTrue, R_ite, R_eAnd, R_eOr, R_eNot, R_neg, R_tup, R_isi, R_some, Rc_some, N.v_eq, N.v_ne, N.v_lt, N.v_le, N.v_gt, N.v_ge, N.v_add, N.v_sub, N.v_iadd, N.v_xor, N.v_int, N.tru_b, N.pd_d, N.data_nil, N.data_cons, N.len_t, N.v_tupT, N.g_name, N.isNone_n, N.isNone_t, N.isNone_i, N.v_isN, N.v_isNn, N.v_eqB, N.v_neB, List.set_cons_succ, List.set_cons_zero, List.getElem?_cons_succ, List.getElem?_cons_zero, Bool.not_true, Bool.not_false, Bool.false_eq_true, Bool.true_eq_false, eq_self, true_implies, false_implies, true_and, and_true, decide_true, decide_false, Int.zero_add, N.R_sl, N.R_it, R_oNone, R_oSome, wipeN, N.R_lst, N.R_mkF, N.R_mkT, N.R_meth, N.v_addT, Ri_rng1, Ri_rng2, Ri_seq, bitXor_nat]
        rw [show ((h : Nat) : Int) - 1 = ((h - 1 : Nat) : Int) by omega]
        simp only [sh1 (show h - 1 ≤ 1000 by omega), Rs_nil, R_call, R_cons, R_nil, R_Var, R_C, R_bin, R_cmp, R_tcmp, R_tOr, R_tAnd, R_tNot, R_tVal, R_tTrue, R_ite, R_eAnd, R_eOr, R_eNot, R_neg, R_tup, R_isi, R_some, Rc_some, N.v_eq, N.v_ne, N.v_lt, N.v_le, N.v_gt, N.v_ge, N.v_add, N.v_sub, N.v_iadd, N.v_xor, N.v_int, N.tru_b, N.pd_d, N.data_nil, N.data_cons, N.len_t, N.v_tupT, N.g_name, N.isNone_n, N.isNone_t, N.isNone_i, N.v_isN, N.v_isNn, N.v_eqB, N.v_neB, List.set_cons_succ, List.set_cons_zero, List.getElem?_cons_succ, List.getElem?_cons_zero, Bool.not_true, Bool.not_false, Bool.false_eq_true, Bool.true_eq_false, eq_self, true_implies, false_implies, true_and, and_true, decide_true, decide_false, Int.zero_add, N.R_sl, N.R_it, R_oNone, R_oSome, wipeN, N.R_lst, N.R_mkF, N.R_mkT, N.R_meth, N.v_addT, Ri_rng1, Ri_rng2, Ri_seq, ihi _ _ hhi r5, bitXor_nat]
        simp [R_retd]
      · have := of_decide_eq_true q
        omega
/-- products of numbers below 2 ^ 64 -/
abbrev NP (a b : Nat) : Nat := np 6 a b
theorem nprod {a b : Nat} (ha : a < 2 ^ 64) (hb : b < 2 ^ 64) (s : Sto) : m_nim_product 8 s [.d (.int (a : Nat)), .d (.int (b : Nat))] = some (.d (.int (NP a b : Nat)), s) := prod_ok 8 6 (by omega) (by omega) a b ha hb s
theorem NP_lt (a b : Nat) : NP a b < 2 ^ 64 := NF.np_lt 6 a b
end T61

namespace T61
open PySem L2 PyProof.Rows N
open NF (np pws sqs)

theorem rng0N {m : Int} {n : Nat} (h : m = (n : Nat)) : rngD 0 m.toNat = (List.range n).map fun k => .d (.int (k : Nat)) := by
  subst h
  unfold rngD
  refine List.map_congr_left fun k _ => ?_
  rw [Int.zero_add]
theorem pws_succ (n a k : Nat) : pws n a (k + 1) = np n (pws n a k) a := by
  show NF.vl (NF.ml (NF.pw (NF.dc n a) k) (NF.dc n a)) = NF.vl (NF.ml (NF.dc n (pws n a k)) (NF.dc n a))
  rw [NF.dc_pws]
theorem pws_up {n m a : Nat} (h : n ≤ m) (ha : a < 2 ^ 2 ^ n) : ∀ k, pws m a k = pws n a k
  | 0 => by rw [NF.pws_zero, NF.pws_zero]
  | k + 1 => by rw [pws_succ, pws_succ, pws_up h ha k, NF.np_le h (NF.pws_lt _ _ _) ha]
theorem modS2 {k : Nat} (s : Sto) : oMod s (.d (.int (k : Nat))) (.d (.int 2)) = some (.d (.int ((k % 2 : Nat) : Nat)), s) := by
  rw [N.v_mod (by decide)]
  rfl
theorem divS2 {k : Nat} (s : Sto) : oDivS s (.d (.int (k : Nat))) (.d (.int 2)) = some (.d (.int ((k / 2 : Nat) : Nat)), s) := by
  unfold oDivS i2
  simp
theorem power_ok {a k0 : Nat} (ha : a < 2 ^ 64) (hk : k0 < 2 ^ 63) (s : Sto) : m_nim_power s [.d (.int (a : Nat)), .d (.int (k0 : Nat))] = some (.d (.int (pws 6 a k0 : Nat)), s) := by
  apply R.eq
  unfold m_nim_power b_nim_power
  rw [R_fn]
  refine ⟨rfl, ?_⟩
  simp only [List.map_cons, List.map_nil, List.cons_append, List.nil_append, List.length_cons, List.length_nil, Nat.reduceSub, Nat.reduceAdd, List.replicate_succ, List.replicate_zero]
  rw [Rs_seq, Rs_set, R_C]
  simp only [List.set_cons_succ, List.set_cons_zero]
  rw [thn_nx, Rs_seq]
  refine Rs_while (fun m e s' => s' = s ∧ ∃ x b k : Nat, k = m ∧ x < 2 ^ 64 ∧ b < 2 ^ 64 ∧ NP x (pws 6 b k) = pws 6 a k0 ∧ e = [some (.d (.int (b : Nat))), some (.d (.int (k : Nat))), some (.d (.int (x : Nat)))]) (m := k0) (by omega) ⟨rfl, 1, a, k0, rfl, by decide, ha, NF.np_one 6 (NF.pws_lt _ _ _), rfl⟩ (fun m e s' hi => ?_)
  obtain ⟨rfl, x, b, k, rfl, hx, hb, hq, rfl⟩ := hi
  simp only [R_tVal, R_Var, List.getElem?_cons_succ, List.getElem?_cons_zero]
  refine ⟨decide (k ≠ 0), ?_, fun h => ?_, fun h => ?_⟩
  · rw [tru_i]
    refine congrArg some ?_
    rw [Bool.eq_iff_iff]
    simp
  · have h := Classical.not_not.mp (of_decide_eq_false h)
    subst h
    rw [show NP x (pws 6 b 0) = np 6 x (pws 6 b 0) from rfl, NF.pws_zero, NF.np_comm, NF.np_one 6 hx] at hq
    rw [thn_nx, Rs_seq, Rs_ret, R_Var]
    simp only [List.getElem?_cons_succ, List.getElem?_cons_zero]
    rw [thn_rt]
    refine R_retd.mpr ?_
    rw [hq]
    exact ⟨rfl, trim_self _⟩
  · have h := of_decide_eq_true h
    rw [Rs_seq]
    have tru : ∀ j : Nat, truD s' (.d (.int (j : Nat))) = some (decide (j ≠ 0)) := fun j => by
      rw [tru_i]
      refine congrArg some ?_
      rw [Bool.eq_iff_iff]
      simp
    refine Rs.imp (Q := fun fl e2 s2 => fl = .nx ∧ s2 = s' ∧ ∃ y : Nat, y < 2 ^ 64 ∧ NP y (pws 6 (NP b b) (k / 2)) = pws 6 a k0 ∧ e2 = [some (.d (.int (b : Nat))), some (.d (.int (k : Nat))), some (.d (.int (y : Nat)))]) ?_ ?_
    · rw [Rs_if]
      simp only [Rs_nil, R_call, R_cons, R_nil, R_Var, R_C, R_bin, R_cmp, R_tcmp, R_tOr, R_tAnd, R_tNot, R_tVal, R_tTrue, R_ite, R_eAnd, R_eOr, R_eNot, R_neg, R_tup, R_isi, R_some, Rc_some, N.v_eq, N.v_ne, N.v_lt, N.v_le, N.v_gt, N.v_ge, N.v_add, N.v_sub, N.v_iadd, N.v_xor, N.v_int, N.tru_b, N.pd_d, N.data_nil, N.data_cons, N.len_t, N.v_tupT, N.g_name, N.isNone_n, N.isNone_t, N.isNone_i, N.v_isN, N.v_isNn, N.v_eqB, N.v_neB, List.set_cons_succ, List.set_cons_zero, List.getElem?_cons_succ, List.getElem?_cons_zero, Bool.not_true, Bool.not_false, Bool.false_eq_true, Bool.true_eq_false, eq_self, true_implies, false_implies, true_and, and_true, decide_true, decide_false, Int.zero_add, N.R_sl, N.R_it, R_oNone, R_oSome, wipeN, N.R_lst, N.R_mkF, N.R_mkT, N.R_meth, N.v_addT, Ri_rng1, Ri_rng2, Ri_seq, modS2, tru]
      refine ⟨fun h2 => ?_, fun h2 => ?_⟩
      · have h2 := of_decide_eq_true h2
        rw [Rs_seq, Rs_set]
        simp only [Rs_nil, R_call, R_cons, R_nil, R_Var, R_C, R_bin, R_cmp, R_tcmp, R_tOr, R_tAnd, R_tNot, R_tVal, R_tTrue, R_ite, R_eAnd, R_eOr, R_eNot, R_neg, R_tup, R_isi, R_some, Rc_some, N.v_eq, N.v_ne, N.v_lt, N.v_le, N.v_gt, N.v_ge, N.v_add, N.v_sub, N.v_iadd, N.v_xor, N.v_int, N.tru_b, N.pd_d, N.data_nil, N.data_cons, N.len_t, N.v_tupT, N.g_name, N.isNone_n, N.isNone_t, N.isNone_i, N.v_isN, N.v_isNn, N.v_eqB, N.v_neB, List.set_cons_succ, List.set_cons_zero, List.getElem?_cons_succ, List.getElem?_cons_zero, Bool.not_true, Bool.not_false, Bool.false_eq_true, Bool.true_eq_false, eq_self, true_implies, false_implies, true_and, and_true, decide_true, decide_false, Int.zero_add, N.R_sl, N.R_it, R_oNone, R_oSome, wipeN, N.R_lst, N.R_mkF, N.R_mkT, N.R_meth, N.v_addT, Ri_rng1, Ri_rng2, Ri_seq, nprod hx hb]
        rw [thn_nx, Rs_nil]
        refine ⟨rfl, rfl, NP x b, NP_lt _ _, ?_, rfl⟩
        show np 6 (np 6 x b) (pws 6 (np 6 b b) (k / 2)) = _
        rw [NF.pws_even, NF.pws_odd 6 b (k / 2) hx, show 2 * (k / 2) + 1 = k by omega]
        exact hq
      · have h2 := of_decide_eq_false h2
        try rw [Rs_nil]
        refine ⟨x, hx, ?_, rfl⟩
        show np 6 x (pws 6 (np 6 b b) (k / 2)) = _
        rw [NF.pws_even, show 2 * (k / 2) = k by omega]
        exact hq
    · rintro fl e2 s2 ⟨rfl, rfl, y, hy, hq2, rfl⟩
      rw [thn_nx, Rs_seq, Rs_set]
      simp only [Rs_nil, R_call, R_cons, R_nil, R_Var, R_C, R_bin, R_cmp, R_tcmp, R_tOr, R_tAnd, R_tNot, R_tVal, R_tTrue, R_ite, R_eAnd, R_eOr, R_eNot, R_neg, R_tup, R_isi, R_some, Rc_some, N.v_eq, N.v_ne, N.v_lt, N.v_le, N.v_gt, N.v_ge, N.v_add, N.v_sub, N.v_iadd, N.v_xor, N.v_int, N.tru_b, N.pd_d, N.data_nil, N.data_cons, N.len_t, N.v_tupT, N.g_name, N.isNone_n, N.isNone_t, N.isNone_i, N.v_isN, N.v_isNn, N.v_eqB, N.v_neB, List.set_cons_succ, List.set_cons_zero, List.getElem?_cons_succ, List.getElem?_cons_zero, Bool.not_true, Bool.not_false, Bool.false_eq_true, Bool.true_eq_false, eq_self, true_implies, false_implies, true_and, and_true, decide_true, decide_false, Int.zero_add, N.R_sl, N.R_it, R_oNone, R_oSome, wipeN, N.R_lst, N.R_mkF, N.R_mkT, N.R_meth, N.v_addT, Ri_rng1, Ri_rng2, Ri_seq, nprod hb hb]
      rw [thn_nx, Rs_seq, Rs_aug]
      simp only [List.getElem?_cons_succ, List.getElem?_cons_zero, R_C, divS2, R_some, List.set_cons_succ, List.set_cons_zero]
      rw [thn_nx, Rs_nil, aft_nx, trimE_len rfl]
      exact ⟨k / 2, by omega, rfl, y, NP b b, k / 2, rfl, hy, NP_lt _ _, hq2, rfl⟩
/-- the inverse -/
theorem inverse_ok {a : Nat} (ha : a < 2 ^ 2 ^ 5) (h0 : a ≠ 0) (s : Sto) : ∃ b : Nat, m_nim_inverse s [.d (.int (a : Nat))] = some (.d (.int (b : Nat)), s) ∧ b < 2 ^ 2 ^ lv a ∧ NP a b = 1 := by
  have e32 : (2 : Nat) ^ 2 ^ 5 = 2 ^ 32 := rfl
  have l1 := lv_ok (a := a) (by omega)
  have l2 := lv_le (by decide) ha
  have t5 := NF.top_le l2
  have lp := Nat.two_pow_pos (lv a)
  have t2 : 2 ≤ 2 ^ 2 ^ lv a := Nat.le_trans (show 2 ≤ 2 ^ 1 by decide) (Nat.pow_le_pow_right (by decide) lp)
  have l32 : 2 ^ lv a ≤ 2 ^ 5 := Nat.pow_le_pow_right (by decide) l2
  have iv := NF.inv_ok l1.2 h0
  by_cases h1 : a = 1
  · subst h1
    refine ⟨1, ?_, by omega, NF.np_one 6 (by decide)⟩
    apply R.eq
    unfold m_nim_inverse b_nim_inverse
    simp [R_fn, R_retd]
  · refine ⟨pws (lv a) a (2 ^ 2 ^ lv a - 2), ?_, NF.pws_lt _ _ _, ?_⟩
    · apply R.eq
      unfold m_nim_inverse b_nim_inverse
      rw [R_fn]
      refine ⟨rfl, ?_⟩
      simp only [List.map_cons, List.map_nil, List.cons_append, List.nil_append, List.length_cons, List.length_nil, Nat.reduceSub, Nat.reduceAdd, List.replicate_succ, List.replicate_zero]
      have d1 : decide (((a : Nat) : Int) = 0) = false := decide_eq_false (by omega)
      have d2 : decide ((1 : Int) < ((a : Nat) : Int)) = true := decide_eq_true (by omega)
      rw [Rs_seq, Rs_if]
      simp only [Rs_nil, R_call, R_cons, R_nil, R_Var, R_C, R_bin, R_cmp, R_tcmp, R_tOr, R_tAnd, R_tNot, R_tVal, R_tTrue, R_ite, R_eAnd, R_eOr, R_eNot, R_neg, R_tup, R_isi, R_some, Rc_some, N.v_eq, N.v_ne, N.v_lt, N.v_le, N.v_gt, N.v_ge, N.v_add, N.v_sub, N.v_iadd, N.v_xor, N.v_int, N.tru_b, N.pd_d, N.data_nil, N.data_cons, N.len_t, N.v_tupT, N.g_name, N.isNone_n, N.isNone_t, N.isNone_i, N.v_isN, N.v_isNn, N.v_eqB, N.v_neB, List.set_cons_succ, List.set_cons_zero, List.getElem?_cons_succ, List.getElem?_cons_zero, Bool.not_true, Bool.not_false, Bool.false_eq_true, Bool.true_eq_false, eq_self, true_implies, false_implies, true_and, and_true, decide_true, decide_false, Int.zero_add, N.R_sl, N.R_it, R_oNone, R_oSome, wipeN, N.R_lst, N.R_mkF, N.R_mkT, N.R_meth, N.v_addT, Ri_rng1, Ri_rng2, Ri_seq, d1]
      try rw [Rs_nil]
      rw [thn_nx, Rs_seq, Rs_ret]
      simp only [Rs_nil, R_call, R_cons, R_nil, R_Var, R_C, R_bin, R_cmp, R_tcmp, R_tOr, R_tAnd, R_tNot, R_tVal, R_tTrue, R_ite, R_eAnd, R_eOr, R_eNot, R_neg, R_tup, R_isi, R_some, Rc_some, N.v_eq, N.v_ne, N.v_lt, N.v_le, N.v_gt, N.v_ge, N.v_add, N.v_sub, N.v_iadd, N.v_xor, N.v_int, N.tru_b, N.pd_d, N.data_nil, N.data_cons, N.len_t, N.v_tupT, N.g_name, N.isNone_n, N.isNone_t, N.isNone_i, N.v_isN, N.v_isNn, N.v_eqB, N.v_neB, List.set_cons_succ, List.set_cons_zero, List.getElem?_cons_succ, List.getElem?_cons_zero, Bool.not_true, Bool.not_false, Bool.false_eq_true, Bool.true_eq_false, eq_self, true_implies, false_implies, true_and, and_true, decide_true, decide_false, Int.zero_add, N.R_sl, N.R_it, R_oNone, R_oSome, wipeN, N.R_lst, N.R_mkF, N.R_mkT, N.R_meth, N.v_addT, Ri_rng1, Ri_rng2, Ri_seq, d2, level_ok (show a < 2 ^ 64 by omega), sh1 (show 2 ^ lv a ≤ 1000 by omega)]
      rw [show ((2 ^ 2 ^ lv a : Nat) : Int) - 2 = ((2 ^ 2 ^ lv a - 2 : Nat) : Int) by omega, power_ok (by omega) (by omega), R_some]
      rw [thn_rt]
      refine R_retd.mpr ⟨?_, trim_self _⟩
      rw [pws_up l1.1 l1.2]
    · show np 6 a _ = 1
      rw [NF.np_le l1.1 l1.2 (NF.pws_lt _ _ _)]
      exact iv
/-- the root -/
theorem root_is {a : Nat} (ha : a < 2 ^ 64) (s : Sto) : m_nim_root s [.d (.int (a : Nat))] = some (.d (.int (sqs 6 (2 ^ lv a - 1) a : Nat)), s) := by
  have l1 := lv_ok ha
  have lp := Nat.two_pow_pos (lv a)
  have l64 : 2 ^ lv a ≤ 2 ^ 6 := Nat.pow_le_pow_right (by decide) l1.1
  apply R.eq
  unfold m_nim_root b_nim_root
  rw [R_fn]
  refine ⟨rfl, ?_⟩
  simp only [List.map_cons, List.map_nil, List.cons_append, List.nil_append, List.length_cons, List.length_nil, Nat.reduceSub, Nat.reduceAdd, List.replicate_succ, List.replicate_zero]
  rw [Rs_seq]
  refine Rs_for (List.range (2 ^ lv a - 1)) (fun x => .d (.int (x : Nat))) (fun k e s' => s' = s ∧ ∃ b : Nat, b < 2 ^ 64 ∧ sqs 6 (2 ^ lv a - 1 - k) b = sqs 6 (2 ^ lv a - 1) a ∧ e = [some (.d (.int (b : Nat))), none]) ?_ (fun k x e s' hk hq => ?_) (fun e s' hq => ?_)
  · rw [Ri_rng1]
    simp only [Rs_nil, R_call, R_cons, R_nil, R_Var, R_C, R_bin, R_cmp, R_tcmp, R_tOr, R_tAnd, R_tNot, R_tVal, R_tTrue, R_ite, R_eAnd, R_eOr, R_eNot, R_neg, R_tup, R_isi, R_some, Rc_some, N.v_eq, N.v_ne, N.v_lt, N.v_le, N.v_gt, N.v_ge, N.v_add, N.v_sub, N.v_iadd, N.v_xor, N.v_int, N.tru_b, N.pd_d, N.data_nil, N.data_cons, N.len_t, N.v_tupT, N.g_name, N.isNone_n, N.isNone_t, N.isNone_i, N.v_isN, N.v_isNn, N.v_eqB, N.v_neB, List.set_cons_succ, List.set_cons_zero, List.getElem?_cons_succ, List.getElem?_cons_zero, Bool.not_true, Bool.not_false, Bool.false_eq_true, Bool.true_eq_false, eq_self, true_implies, false_implies, true_and, and_true, decide_true, decide_false, Int.zero_add, N.R_sl, N.R_it, R_oNone, R_oSome, wipeN, N.R_lst, N.R_mkF, N.R_mkT, N.R_meth, N.v_addT, Ri_rng1, Ri_rng2, Ri_seq, level_ok ha]
    exact ⟨⟨by omega, by omega⟩, rng0N (by omega), a, ha, rfl, rfl⟩
  · obtain ⟨rfl, b, hb, hq, rfl⟩ := hq
    obtain ⟨hk1, hk2⟩ := List.getElem?_eq_some_iff.mp hk
    simp at hk1 hk2
    rw [g_name, Rc_some, Rs_seq, Rs_set]
    simp only [Rs_nil, R_call, R_cons, R_nil, R_Var, R_C, R_bin, R_cmp, R_tcmp, R_tOr, R_tAnd, R_tNot, R_tVal, R_tTrue, R_ite, R_eAnd, R_eOr, R_eNot, R_neg, R_tup, R_isi, R_some, Rc_some, N.v_eq, N.v_ne, N.v_lt, N.v_le, N.v_gt, N.v_ge, N.v_add, N.v_sub, N.v_iadd, N.v_xor, N.v_int, N.tru_b, N.pd_d, N.data_nil, N.data_cons, N.len_t, N.v_tupT, N.g_name, N.isNone_n, N.isNone_t, N.isNone_i, N.v_isN, N.v_isNn, N.v_eqB, N.v_neB, List.set_cons_succ, List.set_cons_zero, List.getElem?_cons_succ, List.getElem?_cons_zero, Bool.not_true, Bool.not_false, Bool.false_eq_true, Bool.true_eq_false, eq_self, true_implies, false_implies, true_and, and_true, decide_true, decide_false, Int.zero_add, N.R_sl, N.R_it, R_oNone, R_oSome, wipeN, N.R_lst, N.R_mkF, N.R_mkT, N.R_meth, N.v_addT, Ri_rng1, Ri_rng2, Ri_seq, nprod hb hb]
    rw [thn_nx, Rs_nil, aft_nx, trimE_len rfl]
    refine ⟨rfl, NP b b, NP_lt _ _, ?_, by simp [wipeN]⟩
    rw [← hq, show 2 ^ lv a - 1 - k = (2 ^ lv a - 1 - (k + 1)) + 1 by omega]
    rfl
  · obtain ⟨rfl, b, hb, hq, rfl⟩ := hq
    rw [List.length_range, Nat.sub_self] at hq
    rw [thn_nx, Rs_seq, Rs_ret]
    simp only [Rs_nil, R_call, R_cons, R_nil, R_Var, R_C, R_bin, R_cmp, R_tcmp, R_tOr, R_tAnd, R_tNot, R_tVal, R_tTrue, R_ite, R_eAnd, R_eOr, R_eNot, R_neg, R_tup, R_isi, R_some, Rc_some, N.v_eq, N.v_ne, N.v_lt, N.v_le, N.v_gt, N.v_ge, N.v_add, N.v_sub, N.v_iadd, N.v_xor, N.v_int, N.tru_b, N.pd_d, N.data_nil, N.data_cons, N.len_t, N.v_tupT, N.g_name, N.isNone_n, N.isNone_t, N.isNone_i, N.v_isN, N.v_isNn, N.v_eqB, N.v_neB, List.set_cons_succ, List.set_cons_zero, List.getElem?_cons_succ, List.getElem?_cons_zero, Bool.not_true, Bool.not_false, Bool.false_eq_true, Bool.true_eq_false, eq_self, true_implies, false_implies, true_and, and_true, decide_true, decide_false, Int.zero_add, N.R_sl, N.R_it, R_oNone, R_oSome, wipeN, N.R_lst, N.R_mkF, N.R_mkT, N.R_meth, N.v_addT, Ri_rng1, Ri_rng2, Ri_seq]
    rw [thn_rt]
    refine R_retd.mpr ⟨?_, trim_self _⟩
    rw [← hq]
    rfl
theorem root_sq {a j : Nat} (hj : j ≤ 6) (ha : a < 2 ^ 2 ^ j) : sqs 6 (2 ^ lv a - 1) a < 2 ^ 2 ^ j ∧ NP (sqs 6 (2 ^ lv a - 1) a) (sqs 6 (2 ^ lv a - 1) a) = a := by
  have e64 : (2 : Nat) ^ 2 ^ 6 = 2 ^ 64 := rfl
  have h64 : 2 ^ 2 ^ j ≤ 2 ^ 2 ^ 6 := NF.top_le hj
  have l1 := lv_ok (a := a) (by omega)
  have l2 := lv_le hj ha
  have tj := NF.top_le l2
  rw [NF.sqs_up l1.1 _ l1.2]
  have lt := NF.sqs_lt (2 ^ lv a - 1) l1.2
  refine ⟨by omega, ?_⟩
  show np 6 _ _ = a
  rw [NF.np_le l1.1 lt lt]
  exact NF.root_ok l1.2
theorem root_back {b : Nat} (hb : b < 2 ^ 64) : sqs 6 (2 ^ lv (NP b b) - 1) (NP b b) = b := by
  have h := root_sq (j := 6) (by decide) (NP_lt b b)
  exact NF.np_sq_inj (n := 6) h.1 hb h.2
end T61

namespace T61
open PySem L2 PyProof.Rows N
open NF (np pws sqs)

theorem rng_at {n k t : Nat} (h : (List.range n)[k]? = some t) : k < n ∧ k = t := by
  obtain ⟨h1, h2⟩ := List.getElem?_eq_some_iff.mp h
  simp at h1 h2
  exact ⟨h1, h2⟩
def mT (a b : Nat) : Nat := np 2 a b
def prodV (a b : Nat) : List Nat := (List.range a).flatMap fun x => (List.range b).map fun y => mT x b ^^^ mT a y ^^^ mT x y
theorem prodV_mex : ∀ a < 16, ∀ b < 16, (∀ r < mT a b, r ∈ prodV a b) ∧ mT a b ∉ prodV a b := by decide +kernel
theorem mT_lt (a b : Nat) : mT a b < 16 := NF.np_lt 2 a b
theorem prodV_lt (a b : Nat) : ∀ n ∈ prodV a b, n < 16 := fun n hn => by
  obtain ⟨x, _, h⟩ := List.mem_flatMap.mp hn
  obtain ⟨y, _, rfl⟩ := List.mem_map.mp h
  exact Nat.xor_lt_two_pow (n := 4) (Nat.xor_lt_two_pow (n := 4) (mT_lt _ _) (mT_lt _ _)) (mT_lt _ _)
def kP (p : Nat × Nat) : PyData := tup [p.1, p.2]
theorem kP_inj : ∀ a b : Nat × Nat, kP a = kP b → a = b := fun a b h => by
  have := tup_inj h
  simp at this
  exact Prod.ext this.1 this.2
def vP (p : Nat × Nat) : PyData := .int (mT p.1 p.2 : Nat)
noncomputable abbrev DP (M : List (Nat × Nat)) : Cell := .dic (DG kP (fun p => .d (vP p)) M)
structure PO (M : List (Nat × Nat)) : Prop where
  nd : M.Nodup
  gd : ∀ p ∈ M, p.1 < 16 ∧ p.2 < 16
theorem PO.few {M : List (Nat × Nat)} (m : PO M) : M.length ≤ 256 := by
  have := nodup_le (m := (List.range 16).flatMap fun a => (List.range 16).map fun b => (a, b)) m.nd fun p hp => by
    have := m.gd p hp
    exact List.mem_flatMap.mpr ⟨p.1, List.mem_range.mpr this.1, List.mem_map.mpr ⟨p.2, List.mem_range.mpr this.2, rfl⟩⟩
  exact this
theorem PO.put {M : List (Nat × Nat)} {p : Nat × Nat} (m : PO M) (h : p.1 < 16 ∧ p.2 < 16) : PO (if p ∈ M then M else M ++ [p]) := by
  split
  · exact m
  · rename_i hn
    refine ⟨?_, fun x hx => ?_⟩
    · rw [List.nodup_append]
      exact ⟨m.nd, by simp, fun a ha b hb => by simp at hb; subst hb; exact fun e => hn (e ▸ ha)⟩
    · rcases List.mem_append.mp hx with h' | h'
      · exact m.gd x h'
      · simp at h'; exact h' ▸ h
theorem product_ok : ∀ (k a b : Nat) (s : Sto) (M : List (Nat × Nat)) (jk : Nat), a + b < k → a < 16 → b < 16 → s[jk]? = some (DP M) → PO M →
    R (m__law_product k s [.d (.int (a : Nat)), .d (.int (b : Nat)), .r jk]) fun d s' => d = .d (.int (mT a b : Nat)) ∧ ∃ M', PO M' ∧ s' = s.set jk (DP M')
  | 0, _, _, _, _, _, h, _, _, _, _ => by omega
  | k + 1, a, b, s, M, jk, hk, ha, hb, hd, hM => by
    have hjl : jk < s.length := (List.getElem?_eq_some_iff.mp hd).1
    unfold m__law_product b__law_product
    rw [R_fn]
    refine ⟨rfl, ?_⟩
    simp only [List.map_cons, List.map_nil, List.cons_append, List.nil_append, List.length_cons, List.length_nil, Nat.reduceSub, Nat.reduceAdd, List.replicate_succ, List.replicate_zero]
    have hkey : isKey (kP (a, b)) = true := key_nt [a, b]
    have hin : cIn true s (.d (.tuple [.int (a : Nat), .int (b : Nat)])) (.r jk) = some (!decide ((a, b) ∈ M)) := by
      have := v_inD (neg := true) hd hkey
      rw [has_DG kP_inj, if_pos rfl] at this
      refine this.trans ?_
      by_cases hq : (a, b) ∈ M <;> simp [hq]
    rw [Rs_seq]
    refine Rs.imp (Q := fun fl e2 s2 => fl = .nx ∧ ∃ M' t o4 o5 o6 o7, PO M' ∧ (a, b) ∈ M' ∧ e2 = [some (.d (.int (a : Nat))), some (.d (.int (b : Nat))), some (.r jk), o4, o5, o6, o7] ∧ s2 = s.set jk (DP M') ++ t) ?_ ?_
    · rw [Rs_if]
      simp only [Rs_nil, R_call, R_cons, R_nil, R_Var, R_C, R_bin, R_cmp, R_tcmp, R_tOr, R_tAnd, R_tNot, R_tVal, R_tTrue, R_ite, R_eAnd, R_eOr, R_eNot, R_neg, R_tup, R_isi, R_some, Rc_some, N.v_eq, N.v_ne, N.v_lt, N.v_le, N.v_gt, N.v_ge, N.v_add, N.v_sub, N.v_iadd, N.v_xor, N.v_int, N.tru_b, N.pd_d, N.data_nil, N.data_cons, N.len_t, N.v_tupT, N.g_name, N.isNone_n, N.isNone_t, N.isNone_i, N.v_isN, N.v_isNn, N.v_eqB, N.v_neB, List.set_cons_succ, List.set_cons_zero, List.getElem?_cons_succ, List.getElem?_cons_zero, Bool.not_true, Bool.not_false, Bool.false_eq_true, Bool.true_eq_false, eq_self, true_implies, false_implies, true_and, and_true, decide_true, decide_false, Int.zero_add, N.R_sl, N.R_it, R_oNone, R_oSome, wipeN, N.R_lst, N.R_mkF, N.R_mkT, N.R_meth, N.v_addT, Ri_rng1, Ri_rng2, Ri_seq, hin]
      refine ⟨by simp [lim], fun hm => ?_, fun hm => ?_⟩
      · have hl2 : ∀ M, (s.set jk (DP M)).length = s.length := fun M => by simp
        rw [Rs_seq, Rs_set, R_dicK]
        simp only [Rs_nil, R_call, R_cons, R_nil, R_Var, R_C, R_bin, R_cmp, R_tcmp, R_tOr, R_tAnd, R_tNot, R_tVal, R_tTrue, R_ite, R_eAnd, R_eOr, R_eNot, R_neg, R_tup, R_isi, R_some, Rc_some, N.v_eq, N.v_ne, N.v_lt, N.v_le, N.v_gt, N.v_ge, N.v_add, N.v_sub, N.v_iadd, N.v_xor, N.v_int, N.tru_b, N.pd_d, N.data_nil, N.data_cons, N.len_t, N.v_tupT, N.g_name, N.isNone_n, N.isNone_t, N.isNone_i, N.v_isN, N.v_isNn, N.v_eqB, N.v_neB, List.set_cons_succ, List.set_cons_zero, List.getElem?_cons_succ, List.getElem?_cons_zero, Bool.not_true, Bool.not_false, Bool.false_eq_true, Bool.true_eq_false, eq_self, true_implies, false_implies, true_and, and_true, decide_true, decide_false, Int.zero_add, N.R_sl, N.R_it, R_oNone, R_oSome, wipeN, N.R_lst, N.R_mkF, N.R_mkT, N.R_meth, N.v_addT, Ri_rng1, Ri_rng2, Ri_seq]
        rw [N.thn_nx, Rs_seq]
        refine Rs_for (List.range a) (fun x => .d (.int (x : Nat))) (fun t e s' => ∃ M' kvs, PO M' ∧ KS ((List.range t).flatMap fun x => (List.range b).map fun y => mT x b ^^^ mT a y ^^^ mT x y) kvs ∧ s' = s.set jk (DP M') ++ [.dk kvs] ∧ e = [some (.d (.int (a : Nat))), some (.d (.int (b : Nat))), some (.r jk), some (.r s.length), none, none, none]) ?_ (fun t x e s' ht hq => ?_) (fun e s' hq => ?_)
        · rw [Ri_rng1]
          simp only [Rs_nil, R_call, R_cons, R_nil, R_Var, R_C, R_bin, R_cmp, R_tcmp, R_tOr, R_tAnd, R_tNot, R_tVal, R_tTrue, R_ite, R_eAnd, R_eOr, R_eNot, R_neg, R_tup, R_isi, R_some, Rc_some, N.v_eq, N.v_ne, N.v_lt, N.v_le, N.v_gt, N.v_ge, N.v_add, N.v_sub, N.v_iadd, N.v_xor, N.v_int, N.tru_b, N.pd_d, N.data_nil, N.data_cons, N.len_t, N.v_tupT, N.g_name, N.isNone_n, N.isNone_t, N.isNone_i, N.v_isN, N.v_isNn, N.v_eqB, N.v_neB, List.set_cons_succ, List.set_cons_zero, List.getElem?_cons_succ, List.getElem?_cons_zero, Bool.not_true, Bool.not_false, Bool.false_eq_true, Bool.true_eq_false, eq_self, true_implies, false_implies, true_and, and_true, decide_true, decide_false, Int.zero_add, N.R_sl, N.R_it, R_oNone, R_oSome, wipeN, N.R_lst, N.R_mkF, N.R_mkT, N.R_meth, N.v_addT, Ri_rng1, Ri_rng2, Ri_seq]
          exact ⟨⟨by omega, by omega⟩, rng0N rfl, M, [], hM, by simpa using KS.nil, by rw [set_same hd]⟩
        · obtain ⟨M1, kvs, hM1, hks, rfl, rfl⟩ := hq
          obtain ⟨hta, rfl⟩ := rng_at ht
          have hkl : ((List.range t).flatMap fun x => (List.range b).map fun y => mT x b ^^^ mT a y ^^^ mT x y).length = t * b := by
            rw [List.length_flatMap]
            simp only [List.length_map, List.length_range, List.map_const', List.sum_replicate_nat]
          have htb : t * b ≤ 16 * 16 := Nat.mul_le_mul (by omega) (by omega)
          rw [g_name, Rc_some, Rs_seq]
          refine Rs_for (List.range b) (fun y => .d (.int (y : Nat))) (fun u e s' => ∃ M' kvs, PO M' ∧ KS (((List.range t).flatMap fun x => (List.range b).map fun y => mT x b ^^^ mT a y ^^^ mT x y) ++ (List.range u).map fun y => mT t b ^^^ mT a y ^^^ mT t y) kvs ∧ s' = s.set jk (DP M') ++ [.dk kvs] ∧ e = [some (.d (.int (a : Nat))), some (.d (.int (b : Nat))), some (.r jk), some (.r s.length), some (.d (.int (t : Nat))), none, none]) ?_ (fun u y e s' hu hq => ?_) (fun e s' hq => ?_)
          · rw [Ri_rng1]
            simp only [Rs_nil, R_call, R_cons, R_nil, R_Var, R_C, R_bin, R_cmp, R_tcmp, R_tOr, R_tAnd, R_tNot, R_tVal, R_tTrue, R_ite, R_eAnd, R_eOr, R_eNot, R_neg, R_tup, R_isi, R_some, Rc_some, N.v_eq, N.v_ne, N.v_lt, N.v_le, N.v_gt, N.v_ge, N.v_add, N.v_sub, N.v_iadd, N.v_xor, N.v_int, N.tru_b, N.pd_d, N.data_nil, N.data_cons, N.len_t, N.v_tupT, N.g_name, N.isNone_n, N.isNone_t, N.isNone_i, N.v_isN, N.v_isNn, N.v_eqB, N.v_neB, List.set_cons_succ, List.set_cons_zero, List.getElem?_cons_succ, List.getElem?_cons_zero, Bool.not_true, Bool.not_false, Bool.false_eq_true, Bool.true_eq_false, eq_self, true_implies, false_implies, true_and, and_true, decide_true, decide_false, Int.zero_add, N.R_sl, N.R_it, R_oNone, R_oSome, wipeN, N.R_lst, N.R_mkF, N.R_mkT, N.R_meth, N.v_addT, Ri_rng1, Ri_rng2, Ri_seq]
            exact ⟨⟨by omega, by omega⟩, rng0N rfl, M1, kvs, hM1, by simpa using hks, rfl⟩
          · obtain ⟨M2, kvs2, hM2, hks2, rfl, rfl⟩ := hq
            obtain ⟨hub, rfl⟩ := rng_at hu
            have gM : ∀ M c, (s.set jk (DP M) ++ [c])[jk]? = some (DP M) := fun M c => by
              rw [List.getElem?_append_left (by rw [hl2]; exact hjl), List.getElem?_set_self hjl]
            have sM : ∀ M M' c, (s.set jk (DP M) ++ [c]).set jk (DP M') = s.set jk (DP M') ++ [c] := fun M M' c => by
              rw [List.set_append_left _ _ (by rw [hl2]; exact hjl), List.set_set]
            rw [g_name, Rc_some, Rs_seq, Rs_pu]
            simp only [Rs_nil, R_call, R_cons, R_nil, R_Var, R_C, R_bin, R_cmp, R_tcmp, R_tOr, R_tAnd, R_tNot, R_tVal, R_tTrue, R_ite, R_eAnd, R_eOr, R_eNot, R_neg, R_tup, R_isi, R_some, Rc_some, N.v_eq, N.v_ne, N.v_lt, N.v_le, N.v_gt, N.v_ge, N.v_add, N.v_sub, N.v_iadd, N.v_xor, N.v_int, N.tru_b, N.pd_d, N.data_nil, N.data_cons, N.len_t, N.v_tupT, N.g_name, N.isNone_n, N.isNone_t, N.isNone_i, N.v_isN, N.v_isNn, N.v_eqB, N.v_neB, List.set_cons_succ, List.set_cons_zero, List.getElem?_cons_succ, List.getElem?_cons_zero, Bool.not_true, Bool.not_false, Bool.false_eq_true, Bool.true_eq_false, eq_self, true_implies, false_implies, true_and, and_true, decide_true, decide_false, Int.zero_add, N.R_sl, N.R_it, R_oNone, R_oSome, wipeN, N.R_lst, N.R_mkF, N.R_mkT, N.R_meth, N.v_addT, Ri_rng1, Ri_rng2, Ri_seq]
            refine R.imp (product_ok k t b _ M2 jk (by omega) (by omega) hb (gM _ _) hM2) fun d s3 hq => ?_
            obtain ⟨rfl, M3, hM3, rfl⟩ := hq
            rw [sM]
            refine R.imp (product_ok k a u _ M3 jk (by omega) ha (by omega) (gM _ _) hM3) fun d s3 hq => ?_
            obtain ⟨rfl, M4, hM4, rfl⟩ := hq
            rw [sM]
            simp only [Rs_nil, R_call, R_cons, R_nil, R_Var, R_C, R_bin, R_cmp, R_tcmp, R_tOr, R_tAnd, R_tNot, R_tVal, R_tTrue, R_ite, R_eAnd, R_eOr, R_eNot, R_neg, R_tup, R_isi, R_some, Rc_some, N.v_eq, N.v_ne, N.v_lt, N.v_le, N.v_gt, N.v_ge, N.v_add, N.v_sub, N.v_iadd, N.v_xor, N.v_int, N.tru_b, N.pd_d, N.data_nil, N.data_cons, N.len_t, N.v_tupT, N.g_name, N.isNone_n, N.isNone_t, N.isNone_i, N.v_isN, N.v_isNn, N.v_eqB, N.v_neB, List.set_cons_succ, List.set_cons_zero, List.getElem?_cons_succ, List.getElem?_cons_zero, Bool.not_true, Bool.not_false, Bool.false_eq_true, Bool.true_eq_false, eq_self, true_implies, false_implies, true_and, and_true, decide_true, decide_false, Int.zero_add, N.R_sl, N.R_it, R_oNone, R_oSome, wipeN, N.R_lst, N.R_mkF, N.R_mkT, N.R_meth, N.v_addT, Ri_rng1, Ri_rng2, Ri_seq, bitXor_nat]
            refine R.imp (product_ok k t u _ M4 jk (by omega) (by omega) (by omega) (gM _ _) hM4) fun d s3 hq => ?_
            obtain ⟨rfl, M5, hM5, rfl⟩ := hq
            rw [sM]
            simp only [Rs_nil, R_call, R_cons, R_nil, R_Var, R_C, R_bin, R_cmp, R_tcmp, R_tOr, R_tAnd, R_tNot, R_tVal, R_tTrue, R_ite, R_eAnd, R_eOr, R_eNot, R_neg, R_tup, R_isi, R_some, Rc_some, N.v_eq, N.v_ne, N.v_lt, N.v_le, N.v_gt, N.v_ge, N.v_add, N.v_sub, N.v_iadd, N.v_xor, N.v_int, N.tru_b, N.pd_d, N.data_nil, N.data_cons, N.len_t, N.v_tupT, N.g_name, N.isNone_n, N.isNone_t, N.isNone_i, N.v_isN, N.v_isNn, N.v_eqB, N.v_neB, List.set_cons_succ, List.set_cons_zero, List.getElem?_cons_succ, List.getElem?_cons_zero, Bool.not_true, Bool.not_false, Bool.false_eq_true, Bool.true_eq_false, eq_self, true_implies, false_implies, true_and, and_true, decide_true, decide_false, Int.zero_add, N.R_sl, N.R_it, R_oNone, R_oSome, wipeN, N.R_lst, N.R_mkF, N.R_mkT, N.R_meth, N.v_addT, Ri_rng1, Ri_rng2, Ri_seq, bitXor_nat]
            have hks3 := hks2.2
            rw [List.length_append, List.length_map, List.length_range, hkl] at hks3
            have hp := putF_n (s := s.set jk (DP M5) ++ [.dk kvs2]) (j := (s.set jk (DP M5)).length) (kvs := kvs2) (k := mT t b ^^^ mT a u ^^^ mT t u) (d := .d (.bool true)) (by simp) (by simp only [lim]; omega)
            rw [set_last, hl2] at hp
            rw [hp, Rc_some, N.thn_nx, Rs_nil, aft_nx, trimE_len (by simp)]
            refine ⟨M5, _, hM5, ?_, rfl, by simp [wipeN]⟩
            have := hks2.put (mT t b ^^^ mT a u ^^^ mT t u) (.d (.bool true))
            rw [List.range_succ, List.map_append, ← List.append_assoc]
            exact this
          · obtain ⟨M2, kvs2, hM2, hks2, rfl, rfl⟩ := hq
            rw [N.thn_nx, Rs_nil, aft_nx, trimE_len (by simp)]
            refine ⟨M2, kvs2, hM2, ?_, rfl, by simp [wipeN]⟩
            rw [List.range_succ, List.flatMap_append]
            simpa using hks2
        · obtain ⟨M1, kvs, hM1, hks, rfl, rfl⟩ := hq
          rw [List.length_range] at hks
          have mx : Mex (prodV a b) (mT a b) := prodV_mex a ha b hb
          rw [N.thn_nx, Rs_seq, Rs_set, R_C]
          simp only [List.set_cons_succ, List.set_cons_zero]
          rw [N.thn_nx, Rs_seq]
          have hci := hks.cin (s := s.set jk (DP M1) ++ [Cell.dk kvs]) (j := s.length) (by rw [List.getElem?_append_right (by rw [hl2]; exact Nat.le_refl _), hl2, Nat.sub_self]; rfl)
          refine Rs_while (fun m e s2 => s2 = s.set jk (DP M1) ++ [Cell.dk kvs] ∧ ∃ k, (∀ i < k, i ∈ prodV a b) ∧ m + k = 16 ∧ e = [some (.d (.int (a : Nat))), some (.d (.int (b : Nat))), some (.r jk), some (.r s.length), none, none, some (.d (.int (k : Nat)))]) (m := 16) (by omega) ⟨rfl, 0, by simp, by simp, rfl⟩ (fun m e s2 hi => ?_)
          obtain ⟨rfl, v, hv1, hv2, rfl⟩ := hi
          simp only [R_tcmp, R_Var, List.getElem?_cons_succ, List.getElem?_cons_zero, hci, Rc_some]
          have hv3 : ∀ hn : v ∉ prodV a b, v = mT a b := fun hn => Mex.uniq (ns := prodV a b) ⟨hv1, hn⟩ mx
          refine ⟨fun hv => ?_, fun hv => ?_⟩
          rotate_left
          · have hv := of_decide_eq_true hv
            have := prodV_lt a b v hv
            rw [Rs_seq, Rs_set]
            simp only [Rs_nil, R_call, R_cons, R_nil, R_Var, R_C, R_bin, R_cmp, R_tcmp, R_tOr, R_tAnd, R_tNot, R_tVal, R_tTrue, R_ite, R_eAnd, R_eOr, R_eNot, R_neg, R_tup, R_isi, R_some, Rc_some, N.v_eq, N.v_ne, N.v_lt, N.v_le, N.v_gt, N.v_ge, N.v_add, N.v_sub, N.v_iadd, N.v_xor, N.v_int, N.tru_b, N.pd_d, N.data_nil, N.data_cons, N.len_t, N.v_tupT, N.g_name, N.isNone_n, N.isNone_t, N.isNone_i, N.v_isN, N.v_isNn, N.v_eqB, N.v_neB, List.set_cons_succ, List.set_cons_zero, List.getElem?_cons_succ, List.getElem?_cons_zero, Bool.not_true, Bool.not_false, Bool.false_eq_true, Bool.true_eq_false, eq_self, true_implies, false_implies, true_and, and_true, decide_true, decide_false, Int.zero_add, N.R_sl, N.R_it, R_oNone, R_oSome, wipeN, N.R_lst, N.R_mkF, N.R_mkT, N.R_meth, N.v_addT, Ri_rng1, Ri_rng2, Ri_seq]
            rw [N.thn_nx, Rs_nil, aft_nx, trimE_len (by simp)]
            refine ⟨m - 1, by omega, rfl, v + 1, fun i hi => ?_, by omega, by simp [wipeN]⟩
            rcases Nat.lt_or_ge i v with h' | h'
            · exact hv1 i h'
            · rwa [show i = v by omega]
          have hv := hv3 (of_decide_eq_false hv)
          subst hv
          rw [N.thn_nx, Rs_seq, Rs_pu]
          simp only [Rs_nil, R_call, R_cons, R_nil, R_Var, R_C, R_bin, R_cmp, R_tcmp, R_tOr, R_tAnd, R_tNot, R_tVal, R_tTrue, R_ite, R_eAnd, R_eOr, R_eNot, R_neg, R_tup, R_isi, R_some, Rc_some, N.v_eq, N.v_ne, N.v_lt, N.v_le, N.v_gt, N.v_ge, N.v_add, N.v_sub, N.v_iadd, N.v_xor, N.v_int, N.tru_b, N.pd_d, N.data_nil, N.data_cons, N.len_t, N.v_tupT, N.g_name, N.isNone_n, N.isNone_t, N.isNone_i, N.v_isN, N.v_isNn, N.v_eqB, N.v_neB, List.set_cons_succ, List.set_cons_zero, List.getElem?_cons_succ, List.getElem?_cons_zero, Bool.not_true, Bool.not_false, Bool.false_eq_true, Bool.true_eq_false, eq_self, true_implies, false_implies, true_and, and_true, decide_true, decide_false, Int.zero_add, N.R_sl, N.R_it, R_oNone, R_oSome, wipeN, N.R_lst, N.R_mkF, N.R_mkT, N.R_meth, N.v_addT, Ri_rng1, Ri_rng2, Ri_seq]
          have hfew := hM1.few
          have gM : (s.set jk (DP M1) ++ [Cell.dk kvs])[jk]? = some (DP M1) := by
            rw [List.getElem?_append_left (by rw [hl2]; exact hjl), List.getElem?_set_self hjl]
          have hp := putF_k (xs := nt [a, b]) (d := .d (.int (mT a b : Nat))) gM hkey (by unfold DG; rw [List.length_map]; simp only [lim]; omega)
          have hp2 := put_DG (vf := fun p => D.d (vP p)) kP_inj M1 (a, b)
          rw [show PyData.tuple (nt [a, b]) = kP (a, b) from rfl, show D.d (.int (mT a b : Nat)) = (fun p => D.d (vP p)) (a, b) from rfl, hp2] at hp
          rw [show D.d (.int (mT a b : Nat)) = (fun p => D.d (vP p)) (a, b) from rfl, show PyData.tuple [.int (a : Nat), .int (b : Nat)] = kP (a, b) from rfl, hp]
          simp only [Rs_nil, R_call, R_cons, R_nil, R_Var, R_C, R_bin, R_cmp, R_tcmp, R_tOr, R_tAnd, R_tNot, R_tVal, R_tTrue, R_ite, R_eAnd, R_eOr, R_eNot, R_neg, R_tup, R_isi, R_some, Rc_some, N.v_eq, N.v_ne, N.v_lt, N.v_le, N.v_gt, N.v_ge, N.v_add, N.v_sub, N.v_iadd, N.v_xor, N.v_int, N.tru_b, N.pd_d, N.data_nil, N.data_cons, N.len_t, N.v_tupT, N.g_name, N.isNone_n, N.isNone_t, N.isNone_i, N.v_isN, N.v_isNn, N.v_eqB, N.v_neB, List.set_cons_succ, List.set_cons_zero, List.getElem?_cons_succ, List.getElem?_cons_zero, Bool.not_true, Bool.not_false, Bool.false_eq_true, Bool.true_eq_false, eq_self, true_implies, false_implies, true_and, and_true, decide_true, decide_false, Int.zero_add, N.R_sl, N.R_it, R_oNone, R_oSome, wipeN, N.R_lst, N.R_mkF, N.R_mkT, N.R_meth, N.v_addT, Ri_rng1, Ri_rng2, Ri_seq]
          refine ⟨by simp [lim], ?_⟩
          rw [N.thn_nx, Rs_nil]
          refine ⟨rfl, _, [.dk kvs], some (.r s.length), none, none, some (.d (.int (mT a b : Nat))), hM1.put (p := (a, b)) ⟨ha, hb⟩, ?_, rfl, ?_⟩
          · split
            · assumption
            · simp
          · rw [List.set_append_left _ _ (by rw [hl2]; exact hjl), List.set_set]
            try (by_cases hq : (a, b) ∈ M1 <;> simp [hq])
      · have hm : (a, b) ∈ M := by simpa using hm
        try rw [Rs_nil]
        exact ⟨M, [], none, none, none, none, hM, hm, rfl, by rw [set_same hd, List.append_nil]⟩
    · rintro fl e2 s2 ⟨rfl, M1, t, o4, o5, o6, o7, hM1, hm, rfl, rfl⟩
      have gM : (s.set jk (DP M1) ++ t)[jk]? = some (DP M1) := by
        rw [List.getElem?_append_left (by simpa using hjl), List.getElem?_set_self hjl]
      have hit := itF_k (xs := nt [a, b]) gM hkey (get_DG (vf := fun p => D.d (vP p)) kP_inj hm)
      rw [show PyData.tuple (nt [a, b]) = .tuple [.int (a : Nat), .int (b : Nat)] from rfl] at hit
      rw [N.thn_nx, Rs_seq, Rs_ret]
      simp only [Rs_nil, R_call, R_cons, R_nil, R_Var, R_C, R_bin, R_cmp, R_tcmp, R_tOr, R_tAnd, R_tNot, R_tVal, R_tTrue, R_ite, R_eAnd, R_eOr, R_eNot, R_neg, R_tup, R_isi, R_some, Rc_some, N.v_eq, N.v_ne, N.v_lt, N.v_le, N.v_gt, N.v_ge, N.v_add, N.v_sub, N.v_iadd, N.v_xor, N.v_int, N.tru_b, N.pd_d, N.data_nil, N.data_cons, N.len_t, N.v_tupT, N.g_name, N.isNone_n, N.isNone_t, N.isNone_i, N.v_isN, N.v_isNn, N.v_eqB, N.v_neB, List.set_cons_succ, List.set_cons_zero, List.getElem?_cons_succ, List.getElem?_cons_zero, Bool.not_true, Bool.not_false, Bool.false_eq_true, Bool.true_eq_false, eq_self, true_implies, false_implies, true_and, and_true, decide_true, decide_false, Int.zero_add, N.R_sl, N.R_it, R_oNone, R_oSome, wipeN, N.R_lst, N.R_mkF, N.R_mkT, N.R_meth, N.v_addT, Ri_rng1, Ri_rng2, Ri_seq, hit]
      refine ⟨by simp [lim], ?_⟩
      rw [N.thn_rt]
      refine R_retd.mpr ?_
      exact ⟨rfl, M1, hM1, trim_sa hjl (DG_below _ _ _ _)⟩
end T61

namespace T61
open PySem L2 PyProof.Rows N
open NF (np pws sqs)

theorem refused_ok (s : Sto) : m__law_refused s [] = some (.d (.bool true), s) := by
  apply R.eq
  unfold m__law_refused b__law_refused
  rw [R_fn]
  refine ⟨rfl, ?_⟩
  simp only [List.map_nil, List.nil_append, List.length_nil, Nat.reduceSub, List.replicate_succ, List.replicate_zero]
  have hx : x_nim_inverse s [.d (.int 0)] = some (Str.ofString "NoAnswer", s) := by
    have hc : N.tCmp cEq (eVar 0) (eC (.int 0)) [some (.d (.int 0))] s = some (true, s) := by
      have : R (N.tCmp cEq (eVar 0) (eC (.int 0)) [some (.d (.int 0))] s) fun b s' => b = true ∧ s' = s := by
        simp only [Rs_nil, R_call, R_cons, R_nil, R_Var, R_C, R_bin, R_cmp, R_tcmp, R_tOr, R_tAnd, R_tNot, R_tVal, R_tTrue, R_ite, R_eAnd, R_eOr, R_eNot, R_neg, R_tup, R_isi, R_some, Rc_some, N.v_eq, N.v_ne, N.v_lt, N.v_le, N.v_gt, N.v_ge, N.v_add, N.v_sub, N.v_iadd, N.v_xor, N.v_int, N.tru_b, N.pd_d, N.data_nil, N.data_cons, N.len_t, N.v_tupT, N.g_name, N.isNone_n, N.isNone_t, N.isNone_i, N.v_isN, N.v_isNn, N.v_eqB, N.v_neB, List.set_cons_succ, List.set_cons_zero, List.getElem?_cons_succ, List.getElem?_cons_zero, Bool.not_true, Bool.not_false, Bool.false_eq_true, Bool.true_eq_false, eq_self, true_implies, false_implies, true_and, and_true, decide_true, decide_false, Int.zero_add, N.R_sl, N.R_it, R_oNone, R_oSome, wipeN, N.R_lst, N.R_mkF, N.R_mkT, N.R_meth, N.v_addT, Ri_rng1, Ri_rng2, Ri_seq]
        try simp
      exact R.eq this
    unfold x_nim_inverse fnX xIf xRaise
    simp [hc]
  have hg : xCall x_nim_inverse (aCons (eC (.int 0)) aNil) [none] s = some (Str.ofString "NoAnswer", s) := by
    unfold xCall aCons eC aNil
    simp [hx]
  rw [Rs_seq]
  refine Rs.of (fl := .rt (.d (.bool true))) (e := [none]) (s := s) ?_ ?_
  · unfold sTryRet
    simp [hg]
  · rw [thn_rt]
    exact R_retd.mpr ⟨rfl, trim_self _⟩
abbrev nI (a : Nat) : Option D := some (.d (.int (a : Nat)))
/-- the turn for one number of bits -/
theorem sI (n i : Nat) : sok (n + 1) (.int (i : Nat)) := sok_int n _
noncomputable abbrev LB : MS := (sSeq (sSet 7 (eBin oShl (eC (.int 1)) (eVar 6)))
  (sSeq (sPar [4, 5, 8] (aCons (eCall m__law_draw (aCons (eVar 1) (aCons (eVar 7) aNil))) (aCons (eCall m__law_draw (aCons (eVar 1) (aCons (eVar 7) aNil))) (aCons (eCall m__law_draw (aCons (eVar 1) (aCons (eVar 7) aNil))) aNil))))
  (sSeq (sSet 9 (eCall (m_nim_product 8) (aCons (eVar 4) (aCons (eVar 5) aNil))))
  (sSeq (sIf (tOr (tNot (tVal (eCall (m__law_same 6) (aCons (eCall (m_nim_product 8) (aCons (eVar 5) (aCons (eVar 4) aNil))) (aCons (eVar 9) aNil))))) (tOr (tNot (chK (fun i j => decide (i ≤ j)) (fun i j => decide (i < j)) (eC (.int 0)) (eVar 9) (eVar 7))) (tNot (tVal (eCall (m__law_same 6) (aCons (eTup (aCons (eCall (m_nim_product 8) (aCons (eVar 4) (aCons (eC (.int 1)) aNil))) (aCons (eCall (m_nim_product 8) (aCons (eC (.int 0)) (aCons (eVar 5) aNil))) aNil))) (aCons (eTup (aCons (eVar 4) (aCons (eC (.int 0)) aNil))) aNil))))))) (sSeq (sRet (eC (.bool false)))
  sNil) sNil)
  (sSeq (sIf (tOr (tCmp cNe (eCall (m_nim_product 8) (aCons (eVar 9) (aCons (eVar 8) aNil))) (eCall (m_nim_product 8) (aCons (eVar 4) (aCons (eCall (m_nim_product 8) (aCons (eVar 5) (aCons (eVar 8) aNil))) aNil)))) (tCmp cNe (eCall (m_nim_product 8) (aCons (eVar 4) (aCons (eBin oXor (eVar 5) (eVar 8)) aNil))) (eBin oXor (eVar 9) (eCall (m_nim_product 8) (aCons (eVar 4) (aCons (eVar 8) aNil)))))) (sSeq (sRet (eC (.bool false)))
  sNil) sNil)
  (sSeq (sSet 10 (eCall m_nim_root (aCons (eVar 4) aNil)))
  (sSeq (sIf (tOr (tNot (tVal (eIsi .int (eVar 10)))) (tOr (tNot (chK (fun i j => decide (i ≤ j)) (fun i j => decide (i < j)) (eC (.int 0)) (eVar 10) (eVar 7))) (tOr (tCmp cNe (eCall (m_nim_product 8) (aCons (eVar 10) (aCons (eVar 10) aNil))) (eVar 4)) (tNot (tVal (eCall (m__law_same 6) (aCons (eCall m_nim_root (aCons (eCall (m_nim_product 8) (aCons (eVar 5) (aCons (eVar 5) aNil))) aNil)) (aCons (eVar 5) aNil)))))))) (sSeq (sRet (eC (.bool false)))
  sNil) sNil)
  (sSeq (sIf (tAnd (tCmp cLt (eVar 6) (eC (.int 33))) (tCmp cGt (eVar 4) (eC (.int 0)))) (sSeq (sSet 11 (eCall m_nim_inverse (aCons (eVar 4) aNil)))
  (sSeq (sIf (tOr (tNot (tVal (eIsi .int (eVar 11)))) (tOr (tNot (chK (fun i j => decide (i < j)) (fun i j => decide (i < j)) (eC (.int 0)) (eVar 11) (eVar 7))) (tCmp cNe (eCall (m_nim_product 8) (aCons (eVar 4) (aCons (eVar 11) aNil))) (eC (.int 1))))) (sSeq (sRet (eC (.bool false)))
  sNil) sNil)
  sNil)) sNil)
  sNil))))))))
theorem np6 {j a b : Nat} (hj : j ≤ 6) (ha : a < 2 ^ 2 ^ j) (hb : b < 2 ^ 2 ^ j) : NP a b < 2 ^ 2 ^ j := by
  show np 6 a b < _
  rw [NF.np_le hj ha hb]
  exact NF.np_lt _ _ _
theorem bits_ok {rest s : Sto} {j : Nat} (hj : j ≤ 6) (t : BS rest s) (o0 o2 o3 y12 y13 y14 y15 y16 : Option D) {Qs : Fl → Lo → Sto → Prop}
    (q : ∀ s' x4 x5 x6 x7 x8 x9 x10 x11, BS rest s' → Qs .nx [o0, some (.r 1), o2, o3, x4, x5, x6, x7, x8, x9, x10, x11, y12, y13, y14, y15, y16] s') :
    Rs (LB [o0, some (.r 1), o2, o3, none, none, nI (2 ^ j), none, none, none, none, none, y12, y13, y14, y15, y16] s) Qs := by
  have hp := Nat.two_pow_pos j
  have h64' : 2 ^ j ≤ 2 ^ 6 := Nat.pow_le_pow_right (by decide) hj
  have h64 : 2 ^ 2 ^ j ≤ 2 ^ 2 ^ 6 := NF.top_le hj
  have e64 : (2 : Nat) ^ 2 ^ 6 = 2 ^ 64 := rfl
  have tp := Nat.two_pow_pos (2 ^ j)
  unfold LB
  rw [Rs_seq, Rs_set]
  simp only [Rs_nil, R_call, R_cons, R_nil, R_Var, R_C, R_bin, R_cmp, R_tcmp, R_tOr, R_tAnd, R_tNot, R_tVal, R_tTrue, R_ite, R_eAnd, R_eOr, R_eNot, R_neg, R_tup, R_isi, R_some, Rc_some, N.v_eq, N.v_ne, N.v_lt, N.v_le, N.v_gt, N.v_ge, N.v_add, N.v_sub, N.v_iadd, N.v_xor, N.v_int, N.tru_b, N.pd_d, N.data_nil, N.data_cons, N.len_t, N.v_tupT, N.g_name, N.isNone_n, N.isNone_t, N.isNone_i, N.v_isN, N.v_isNn, N.v_eqB, N.v_neB, List.set_cons_succ, List.set_cons_zero, List.getElem?_cons_succ, List.getElem?_cons_zero, Bool.not_true, Bool.not_false, Bool.false_eq_true, Bool.true_eq_false, eq_self, true_implies, false_implies, true_and, and_true, decide_true, decide_false, Int.zero_add, N.R_sl, N.R_it, R_oNone, R_oSome, wipeN, N.R_lst, N.R_mkF, N.R_mkT, N.R_meth, N.v_addT, Ri_rng1, Ri_rng2, Ri_seq, sh1 (show 2 ^ j ≤ 1000 by omega)]
  rw [thn_nx, Rs_seq, Rs_par]
  simp only [Rs_nil, R_call, R_cons, R_nil, R_Var, R_C, R_bin, R_cmp, R_tcmp, R_tOr, R_tAnd, R_tNot, R_tVal, R_tTrue, R_ite, R_eAnd, R_eOr, R_eNot, R_neg, R_tup, R_isi, R_some, Rc_some, N.v_eq, N.v_ne, N.v_lt, N.v_le, N.v_gt, N.v_ge, N.v_add, N.v_sub, N.v_iadd, N.v_xor, N.v_int, N.tru_b, N.pd_d, N.data_nil, N.data_cons, N.len_t, N.v_tupT, N.g_name, N.isNone_n, N.isNone_t, N.isNone_i, N.v_isN, N.v_isNn, N.v_eqB, N.v_neB, List.set_cons_succ, List.set_cons_zero, List.getElem?_cons_succ, List.getElem?_cons_zero, Bool.not_true, Bool.not_false, Bool.false_eq_true, Bool.true_eq_false, eq_self, true_implies, false_implies, true_and, and_true, decide_true, decide_false, Int.zero_add, N.R_sl, N.R_it, R_oNone, R_oSome, wipeN, N.R_lst, N.R_mkF, N.R_mkT, N.R_meth, N.v_addT, Ri_rng1, Ri_rng2, Ri_seq]
  have t256 : 2 ^ 2 ^ j < 2 ^ 256 := by omega
  refine R_draw t tp t256 fun a s1 ha t1 => ?_
  refine R_draw t1 tp t256 fun b s2 hb t2 => ?_
  refine R_draw t2 tp t256 fun c s3 hc t3 => ?_
  refine ⟨by simp, ?_⟩
  simp only [List.zip_cons_cons, List.zip_nil_right, List.foldl_cons, List.foldl_nil, List.set_cons_succ, List.set_cons_zero]
  have ha6 : a < 2 ^ 64 := by omega
  have hb6 : b < 2 ^ 64 := by omega
  have hc6 : c < 2 ^ 64 := by omega
  have ab := np6 hj ha hb
  rw [thn_nx, Rs_seq, Rs_set]
  simp only [Rs_nil, R_call, R_cons, R_nil, R_Var, R_C, R_bin, R_cmp, R_tcmp, R_tOr, R_tAnd, R_tNot, R_tVal, R_tTrue, R_ite, R_eAnd, R_eOr, R_eNot, R_neg, R_tup, R_isi, R_some, Rc_some, N.v_eq, N.v_ne, N.v_lt, N.v_le, N.v_gt, N.v_ge, N.v_add, N.v_sub, N.v_iadd, N.v_xor, N.v_int, N.tru_b, N.pd_d, N.data_nil, N.data_cons, N.len_t, N.v_tupT, N.g_name, N.isNone_n, N.isNone_t, N.isNone_i, N.v_isN, N.v_isNn, N.v_eqB, N.v_neB, List.set_cons_succ, List.set_cons_zero, List.getElem?_cons_succ, List.getElem?_cons_zero, Bool.not_true, Bool.not_false, Bool.false_eq_true, Bool.true_eq_false, eq_self, true_implies, false_implies, true_and, and_true, decide_true, decide_false, Int.zero_add, N.R_sl, N.R_it, R_oNone, R_oSome, wipeN, N.R_lst, N.R_mkF, N.R_mkT, N.R_meth, N.v_addT, Ri_rng1, Ri_rng2, Ri_seq, nprod ha6 hb6]
  rw [thn_nx, Rs_seq, Rs_if]
  have p1 : ∀ s, m_nim_product 8 s [.d (.int (a : Nat)), .d (.int 1)] = some (.d (.int (a : Nat)), s) := fun s => by
    have := nprod ha6 (show 1 < 2 ^ 64 by decide) s
    rw [show NP a 1 = a by show np 6 a 1 = a; rw [NF.np_comm, NF.np_one 6 ha6]] at this
    exact this
  have p0 : ∀ s, m_nim_product 8 s [.d (.int 0), .d (.int (b : Nat))] = some (.d (.int 0), s) := fun s => by
    have := nprod (show 0 < 2 ^ 64 by decide) hb6 s
    rw [show NP 0 b = 0 from NF.np_zero 6 b] at this
    exact this
  simp only [Rs_nil, R_call, R_cons, R_nil, R_Var, R_C, R_bin, R_cmp, R_tcmp, R_tOr, R_tAnd, R_tNot, R_tVal, R_tTrue, R_ite, R_eAnd, R_eOr, R_eNot, R_neg, R_tup, R_isi, R_some, Rc_some, N.v_eq, N.v_ne, N.v_lt, N.v_le, N.v_gt, N.v_ge, N.v_add, N.v_sub, N.v_iadd, N.v_xor, N.v_int, N.tru_b, N.pd_d, N.data_nil, N.data_cons, N.len_t, N.v_tupT, N.g_name, N.isNone_n, N.isNone_t, N.isNone_i, N.v_isN, N.v_isNn, N.v_eqB, N.v_neB, List.set_cons_succ, List.set_cons_zero, List.getElem?_cons_succ, List.getElem?_cons_zero, Bool.not_true, Bool.not_false, Bool.false_eq_true, Bool.true_eq_false, eq_self, true_implies, false_implies, true_and, and_true, decide_true, decide_false, Int.zero_add, N.R_sl, N.R_it, R_oNone, R_oSome, wipeN, N.R_lst, N.R_mkF, N.R_mkT, N.R_meth, N.v_addT, Ri_rng1, Ri_rng2, Ri_seq, R_chK, nprod hb6 ha6, p1, p0]
  rw [show NP b a = NP a b from NF.np_comm 6 b a]
  refine R_same (n := 6) (sI 5 _) ?_
  simp only [Rs_nil, R_call, R_cons, R_nil, R_Var, R_C, R_bin, R_cmp, R_tcmp, R_tOr, R_tAnd, R_tNot, R_tVal, R_tTrue, R_ite, R_eAnd, R_eOr, R_eNot, R_neg, R_tup, R_isi, R_some, Rc_some, N.v_eq, N.v_ne, N.v_lt, N.v_le, N.v_gt, N.v_ge, N.v_add, N.v_sub, N.v_iadd, N.v_xor, N.v_int, N.tru_b, N.pd_d, N.data_nil, N.data_cons, N.len_t, N.v_tupT, N.g_name, N.isNone_n, N.isNone_t, N.isNone_i, N.v_isN, N.v_isNn, N.v_eqB, N.v_neB, List.set_cons_succ, List.set_cons_zero, List.getElem?_cons_succ, List.getElem?_cons_zero, Bool.not_true, Bool.not_false, Bool.false_eq_true, Bool.true_eq_false, eq_self, true_implies, false_implies, true_and, and_true, decide_true, decide_false, Int.zero_add, N.R_sl, N.R_it, R_oNone, R_oSome, wipeN, N.R_lst, N.R_mkF, N.R_mkT, N.R_meth, N.v_addT, Ri_rng1, Ri_rng2, Ri_seq]
  have c1 : decide ((0 : Int) ≤ ((NP a b : Nat) : Int)) = true := decide_eq_true (by omega)
  have c2 : decide (((NP a b : Nat) : Int) < ((2 ^ 2 ^ j : Nat) : Int)) = true := decide_eq_true (by omega)
  simp only [c1, c2, Rs_nil, R_call, R_cons, R_nil, R_Var, R_C, R_bin, R_cmp, R_tcmp, R_tOr, R_tAnd, R_tNot, R_tVal, R_tTrue, R_ite, R_eAnd, R_eOr, R_eNot, R_neg, R_tup, R_isi, R_some, Rc_some, N.v_eq, N.v_ne, N.v_lt, N.v_le, N.v_gt, N.v_ge, N.v_add, N.v_sub, N.v_iadd, N.v_xor, N.v_int, N.tru_b, N.pd_d, N.data_nil, N.data_cons, N.len_t, N.v_tupT, N.g_name, N.isNone_n, N.isNone_t, N.isNone_i, N.v_isN, N.v_isNn, N.v_eqB, N.v_neB, List.set_cons_succ, List.set_cons_zero, List.getElem?_cons_succ, List.getElem?_cons_zero, Bool.not_true, Bool.not_false, Bool.false_eq_true, Bool.true_eq_false, eq_self, true_implies, false_implies, true_and, and_true, decide_true, decide_false, Int.zero_add, N.R_sl, N.R_it, R_oNone, R_oSome, wipeN, N.R_lst, N.R_mkF, N.R_mkT, N.R_meth, N.v_addT, Ri_rng1, Ri_rng2, Ri_seq]
  refine ⟨by simp [lim], by simp [lim], ?_⟩
  refine R_same (n := 6) (sok_tup (by simp [lim]) fun y hy => ?_) ?_
  · simp at hy
    rcases hy with rfl | rfl <;> exact sok_int 4 _
  simp only [Rs_nil, R_call, R_cons, R_nil, R_Var, R_C, R_bin, R_cmp, R_tcmp, R_tOr, R_tAnd, R_tNot, R_tVal, R_tTrue, R_ite, R_eAnd, R_eOr, R_eNot, R_neg, R_tup, R_isi, R_some, Rc_some, N.v_eq, N.v_ne, N.v_lt, N.v_le, N.v_gt, N.v_ge, N.v_add, N.v_sub, N.v_iadd, N.v_xor, N.v_int, N.tru_b, N.pd_d, N.data_nil, N.data_cons, N.len_t, N.v_tupT, N.g_name, N.isNone_n, N.isNone_t, N.isNone_i, N.v_isN, N.v_isNn, N.v_eqB, N.v_neB, List.set_cons_succ, List.set_cons_zero, List.getElem?_cons_succ, List.getElem?_cons_zero, Bool.not_true, Bool.not_false, Bool.false_eq_true, Bool.true_eq_false, eq_self, true_implies, false_implies, true_and, and_true, decide_true, decide_false, Int.zero_add, N.R_sl, N.R_it, R_oNone, R_oSome, wipeN, N.R_lst, N.R_mkF, N.R_mkT, N.R_meth, N.v_addT, Ri_rng1, Ri_rng2, Ri_seq]
  try rw [Rs_nil]
  have bc : b ^^^ c < 2 ^ 2 ^ j := Nat.xor_lt_two_pow hb hc
  have q1 : NP (NP a b) c = NP a (NP b c) := NF.np_assoc 6 a b c
  have q2 : NP a (b ^^^ c) = NP a b ^^^ NP a c := NF.np_xor 6 a hb6 hc6
  rw [thn_nx, Rs_seq, Rs_if]
  simp only [Rs_nil, R_call, R_cons, R_nil, R_Var, R_C, R_bin, R_cmp, R_tcmp, R_tOr, R_tAnd, R_tNot, R_tVal, R_tTrue, R_ite, R_eAnd, R_eOr, R_eNot, R_neg, R_tup, R_isi, R_some, Rc_some, N.v_eq, N.v_ne, N.v_lt, N.v_le, N.v_gt, N.v_ge, N.v_add, N.v_sub, N.v_iadd, N.v_xor, N.v_int, N.tru_b, N.pd_d, N.data_nil, N.data_cons, N.len_t, N.v_tupT, N.g_name, N.isNone_n, N.isNone_t, N.isNone_i, N.v_isN, N.v_isNn, N.v_eqB, N.v_neB, List.set_cons_succ, List.set_cons_zero, List.getElem?_cons_succ, List.getElem?_cons_zero, Bool.not_true, Bool.not_false, Bool.false_eq_true, Bool.true_eq_false, eq_self, true_implies, false_implies, true_and, and_true, decide_true, decide_false, Int.zero_add, N.R_sl, N.R_it, R_oNone, R_oSome, wipeN, N.R_lst, N.R_mkF, N.R_mkT, N.R_meth, N.v_addT, Ri_rng1, Ri_rng2, Ri_seq, nprod (NP_lt a b) hc6, nprod hb6 hc6, nprod ha6 (NP_lt b c), q1, bitXor_nat, nprod ha6 (show b ^^^ c < 2 ^ 64 by omega), nprod ha6 hc6, q2]
  try rw [Rs_nil]
  have rs := root_sq hj ha
  rw [thn_nx, Rs_seq, Rs_set]
  simp only [Rs_nil, R_call, R_cons, R_nil, R_Var, R_C, R_bin, R_cmp, R_tcmp, R_tOr, R_tAnd, R_tNot, R_tVal, R_tTrue, R_ite, R_eAnd, R_eOr, R_eNot, R_neg, R_tup, R_isi, R_some, Rc_some, N.v_eq, N.v_ne, N.v_lt, N.v_le, N.v_gt, N.v_ge, N.v_add, N.v_sub, N.v_iadd, N.v_xor, N.v_int, N.tru_b, N.pd_d, N.data_nil, N.data_cons, N.len_t, N.v_tupT, N.g_name, N.isNone_n, N.isNone_t, N.isNone_i, N.v_isN, N.v_isNn, N.v_eqB, N.v_neB, List.set_cons_succ, List.set_cons_zero, List.getElem?_cons_succ, List.getElem?_cons_zero, Bool.not_true, Bool.not_false, Bool.false_eq_true, Bool.true_eq_false, eq_self, true_implies, false_implies, true_and, and_true, decide_true, decide_false, Int.zero_add, N.R_sl, N.R_it, R_oNone, R_oSome, wipeN, N.R_lst, N.R_mkF, N.R_mkT, N.R_meth, N.v_addT, Ri_rng1, Ri_rng2, Ri_seq, root_is ha6]
  generalize hr : sqs 6 (2 ^ lv a - 1) a = r at rs
  have r6 : r < 2 ^ 64 := by omega
  have c3 : decide ((0 : Int) ≤ ((r : Nat) : Int)) = true := decide_eq_true (by omega)
  have c4 : decide (((r : Nat) : Int) < ((2 ^ 2 ^ j : Nat) : Int)) = true := decide_eq_true (by omega)
  have rb := root_is (NP_lt b b)
  rw [root_back hb6] at rb
  rw [thn_nx, Rs_seq, Rs_if]
  simp only [Rs_nil, R_call, R_cons, R_nil, R_Var, R_C, R_bin, R_cmp, R_tcmp, R_tOr, R_tAnd, R_tNot, R_tVal, R_tTrue, R_ite, R_eAnd, R_eOr, R_eNot, R_neg, R_tup, R_isi, R_some, Rc_some, N.v_eq, N.v_ne, N.v_lt, N.v_le, N.v_gt, N.v_ge, N.v_add, N.v_sub, N.v_iadd, N.v_xor, N.v_int, N.tru_b, N.pd_d, N.data_nil, N.data_cons, N.len_t, N.v_tupT, N.g_name, N.isNone_n, N.isNone_t, N.isNone_i, N.v_isN, N.v_isNn, N.v_eqB, N.v_neB, List.set_cons_succ, List.set_cons_zero, List.getElem?_cons_succ, List.getElem?_cons_zero, Bool.not_true, Bool.not_false, Bool.false_eq_true, Bool.true_eq_false, eq_self, true_implies, false_implies, true_and, and_true, decide_true, decide_false, Int.zero_add, N.R_sl, N.R_it, R_oNone, R_oSome, wipeN, N.R_lst, N.R_mkF, N.R_mkT, N.R_meth, N.v_addT, Ri_rng1, Ri_rng2, Ri_seq, R_chK, show ∀ i, TyT.int.of (.int i) = true from fun _ => rfl, c3, c4, nprod r6 r6, rs.2, nprod hb6 hb6, rb]
  refine R_same (n := 6) (sI 5 _) ?_
  simp only [Rs_nil, R_call, R_cons, R_nil, R_Var, R_C, R_bin, R_cmp, R_tcmp, R_tOr, R_tAnd, R_tNot, R_tVal, R_tTrue, R_ite, R_eAnd, R_eOr, R_eNot, R_neg, R_tup, R_isi, R_some, Rc_some, N.v_eq, N.v_ne, N.v_lt, N.v_le, N.v_gt, N.v_ge, N.v_add, N.v_sub, N.v_iadd, N.v_xor, N.v_int, N.tru_b, N.pd_d, N.data_nil, N.data_cons, N.len_t, N.v_tupT, N.g_name, N.isNone_n, N.isNone_t, N.isNone_i, N.v_isN, N.v_isNn, N.v_eqB, N.v_neB, List.set_cons_succ, List.set_cons_zero, List.getElem?_cons_succ, List.getElem?_cons_zero, Bool.not_true, Bool.not_false, Bool.false_eq_true, Bool.true_eq_false, eq_self, true_implies, false_implies, true_and, and_true, decide_true, decide_false, Int.zero_add, N.R_sl, N.R_it, R_oNone, R_oSome, wipeN, N.R_lst, N.R_mkF, N.R_mkT, N.R_meth, N.v_addT, Ri_rng1, Ri_rng2, Ri_seq]
  try rw [Rs_nil]
  rw [thn_nx, Rs_seq, Rs_if]
  simp only [Rs_nil, R_call, R_cons, R_nil, R_Var, R_C, R_bin, R_cmp, R_tcmp, R_tOr, R_tAnd, R_tNot, R_tVal, R_tTrue, R_ite, R_eAnd, R_eOr, R_eNot, R_neg, R_tup, R_isi, R_some, Rc_some, N.v_eq, N.v_ne, N.v_lt, N.v_le, N.v_gt, N.v_ge, N.v_add, N.v_sub, N.v_iadd, N.v_xor, N.v_int, N.tru_b, N.pd_d, N.data_nil, N.data_cons, N.len_t, N.v_tupT, N.g_name, N.isNone_n, N.isNone_t, N.isNone_i, N.v_isN, N.v_isNn, N.v_eqB, N.v_neB, List.set_cons_succ, List.set_cons_zero, List.getElem?_cons_succ, List.getElem?_cons_zero, Bool.not_true, Bool.not_false, Bool.false_eq_true, Bool.true_eq_false, eq_self, true_implies, false_implies, true_and, and_true, decide_true, decide_false, Int.zero_add, N.R_sl, N.R_it, R_oNone, R_oSome, wipeN, N.R_lst, N.R_mkF, N.R_mkT, N.R_meth, N.v_addT, Ri_rng1, Ri_rng2, Ri_seq]
  have d1 : decide (((2 ^ j : Nat) : Int) < 33) = decide (j ≤ 5) := by
    refine decide_eq_decide.mpr ⟨fun h => ?_, fun h => ?_⟩
    · refine Classical.byContradiction fun hc => ?_
      have : j = 6 := by omega
      subst this
      exact absurd h (by decide)
    · have : 2 ^ j ≤ 2 ^ 5 := Nat.pow_le_pow_right (by decide) h
      omega
  rw [d1]
  refine ⟨fun h1 => ⟨fun h2 => ?_, fun h2 => ?_⟩, fun h1 => ?_⟩
  · have h1 := of_decide_eq_true h1
    have h2 := of_decide_eq_true h2
    have t5 := NF.top_le h1
    obtain ⟨v, hv1, hv2, hv3⟩ := inverse_ok (a := a) (by omega) (by omega) s3
    have la := NF.top_le (lv_le hj ha)
    have v0 : v ≠ 0 := fun h => by
      subst h
      rw [show NP a 0 = np 6 a 0 from rfl, NF.np_comm, NF.np_zero] at hv3
      exact absurd hv3 (by decide)
    have c5 : decide ((0 : Int) < ((v : Nat) : Int)) = true := decide_eq_true (by omega)
    have c6 : decide (((v : Nat) : Int) < ((2 ^ 2 ^ j : Nat) : Int)) = true := decide_eq_true (by omega)
    rw [Rs_seq, Rs_set]
    simp only [Rs_nil, R_call, R_cons, R_nil, R_Var, R_C, R_bin, R_cmp, R_tcmp, R_tOr, R_tAnd, R_tNot, R_tVal, R_tTrue, R_ite, R_eAnd, R_eOr, R_eNot, R_neg, R_tup, R_isi, R_some, Rc_some, N.v_eq, N.v_ne, N.v_lt, N.v_le, N.v_gt, N.v_ge, N.v_add, N.v_sub, N.v_iadd, N.v_xor, N.v_int, N.tru_b, N.pd_d, N.data_nil, N.data_cons, N.len_t, N.v_tupT, N.g_name, N.isNone_n, N.isNone_t, N.isNone_i, N.v_isN, N.v_isNn, N.v_eqB, N.v_neB, List.set_cons_succ, List.set_cons_zero, List.getElem?_cons_succ, List.getElem?_cons_zero, Bool.not_true, Bool.not_false, Bool.false_eq_true, Bool.true_eq_false, eq_self, true_implies, false_implies, true_and, and_true, decide_true, decide_false, Int.zero_add, N.R_sl, N.R_it, R_oNone, R_oSome, wipeN, N.R_lst, N.R_mkF, N.R_mkT, N.R_meth, N.v_addT, Ri_rng1, Ri_rng2, Ri_seq, hv1]
    rw [thn_nx, Rs_seq, Rs_if]
    simp only [Rs_nil, R_call, R_cons, R_nil, R_Var, R_C, R_bin, R_cmp, R_tcmp, R_tOr, R_tAnd, R_tNot, R_tVal, R_tTrue, R_ite, R_eAnd, R_eOr, R_eNot, R_neg, R_tup, R_isi, R_some, Rc_some, N.v_eq, N.v_ne, N.v_lt, N.v_le, N.v_gt, N.v_ge, N.v_add, N.v_sub, N.v_iadd, N.v_xor, N.v_int, N.tru_b, N.pd_d, N.data_nil, N.data_cons, N.len_t, N.v_tupT, N.g_name, N.isNone_n, N.isNone_t, N.isNone_i, N.v_isN, N.v_isNn, N.v_eqB, N.v_neB, List.set_cons_succ, List.set_cons_zero, List.getElem?_cons_succ, List.getElem?_cons_zero, Bool.not_true, Bool.not_false, Bool.false_eq_true, Bool.true_eq_false, eq_self, true_implies, false_implies, true_and, and_true, decide_true, decide_false, Int.zero_add, N.R_sl, N.R_it, R_oNone, R_oSome, wipeN, N.R_lst, N.R_mkF, N.R_mkT, N.R_meth, N.v_addT, Ri_rng1, Ri_rng2, Ri_seq, R_chK, show ∀ i, TyT.int.of (.int i) = true from fun _ => rfl, c5, c6, nprod ha6 (show v < 2 ^ 64 by omega), hv3]
    have : (!decide (((1 : Nat) : Int) = 1)) = false := by decide
    simp only [this, Rs_nil, R_call, R_cons, R_nil, R_Var, R_C, R_bin, R_cmp, R_tcmp, R_tOr, R_tAnd, R_tNot, R_tVal, R_tTrue, R_ite, R_eAnd, R_eOr, R_eNot, R_neg, R_tup, R_isi, R_some, Rc_some, N.v_eq, N.v_ne, N.v_lt, N.v_le, N.v_gt, N.v_ge, N.v_add, N.v_sub, N.v_iadd, N.v_xor, N.v_int, N.tru_b, N.pd_d, N.data_nil, N.data_cons, N.len_t, N.v_tupT, N.g_name, N.isNone_n, N.isNone_t, N.isNone_i, N.v_isN, N.v_isNn, N.v_eqB, N.v_neB, List.set_cons_succ, List.set_cons_zero, List.getElem?_cons_succ, List.getElem?_cons_zero, Bool.not_true, Bool.not_false, Bool.false_eq_true, Bool.true_eq_false, eq_self, true_implies, false_implies, true_and, and_true, decide_true, decide_false, Int.zero_add, N.R_sl, N.R_it, R_oNone, R_oSome, wipeN, N.R_lst, N.R_mkF, N.R_mkT, N.R_meth, N.v_addT, Ri_rng1, Ri_rng2, Ri_seq]
    try rw [Rs_nil]
    rw [thn_nx, Rs_nil, thn_nx, Rs_nil]
    exact q _ _ _ _ _ _ _ _ _ t3
  · try rw [Rs_nil]
    rw [thn_nx, Rs_nil]
    exact q _ _ _ _ _ _ _ _ _ t3
  · try rw [Rs_nil]
    rw [thn_nx, Rs_nil]
    exact q _ _ _ _ _ _ _ _ _ t3
end T61

namespace T61
open PySem L2 PyProof.Rows N
open NF (np pws sqs)

theorem pows (d : Nat) (h : d < 6) : 2 ^ (2 ^ d) < 2 ^ 64 := by
  have : 2 ^ 2 ^ d ≤ 2 ^ 2 ^ 5 := NF.top_le (by omega)
  exact Nat.lt_of_le_of_lt this (by decide)
theorem high_ok {i b : Nat} (hi : i < 6) (hb : b < 2 ^ 2 ^ i) : NP (2 ^ 2 ^ i) b = 2 ^ 2 ^ i * b := by
  show np 6 _ _ = _
  have l1 : 2 ^ 2 ^ i < 2 ^ 2 ^ (i + 1) := Nat.pow_lt_pow_right (by decide) (Nat.pow_lt_pow_right (by decide) (by omega))
  rw [NF.np_le (show i + 1 ≤ 6 by omega) l1 (by omega)]
  exact NF.np_high hb
theorem highsq {i : Nat} (hi : i < 6) : NP (2 ^ 2 ^ i) (2 ^ 2 ^ i) = 2 ^ 2 ^ i + 2 ^ 2 ^ i / 2 := by
  show np 6 _ _ = _
  have l1 : 2 ^ 2 ^ i < 2 ^ 2 ^ (i + 1) := Nat.pow_lt_pow_right (by decide) (Nat.pow_lt_pow_right (by decide) (by omega))
  rw [NF.np_le (show i + 1 ≤ 6 by omega) l1 l1]
  exact NF.np_highsq i
theorem mulP {a b : Nat} (ha : a < 2 ^ 64) (hb : b < 2 ^ 64) (s : Sto) : oMul s (.d (.int (a : Nat))) (.d (.int (b : Nat))) = some (.d (.int ((a * b : Nat) : Nat)), s) := by
  rw [v_mulS (by omega) (by omega)]
  rfl
theorem inv1 (s : Sto) : m_nim_inverse s [.d (.int 1)] = some (.d (.int 1), s) := by
  obtain ⟨b, h1, h2, h3⟩ := inverse_ok (a := 1) (by decide) (by decide) s
  have : b = 1 := by
    rw [show NP 1 b = np 6 1 b from rfl, NF.np_one 6 (Nat.lt_of_lt_of_le h2 (NF.top_le (lv_ok (by decide)).1))] at h3
    exact h3
  subst this
  exact h1
theorem inv2 (s : Sto) : m_nim_inverse s [.d (.int 2)] = some (.d (.int 3), s) := by
  obtain ⟨b, h1, h2, h3⟩ := inverse_ok (a := 2) (by decide) (by decide) s
  have e : 2 ^ 2 ^ lv 2 = 4 := by decide
  rw [e] at h2
  have h4 : np 6 2 b = np 1 2 b := NF.np_le (by decide) (by decide) (by omega)
  rw [show NP 2 b = np 6 2 b from rfl, h4] at h3
  have : b = 3 := by
    have : b = 0 ∨ b = 1 ∨ b = 2 ∨ b = 3 := by omega
    rcases this with rfl | rfl | rfl | rfl
    · exact absurd h3 (by decide +kernel)
    · exact absurd h3 (by decide +kernel)
    · exact absurd h3 (by decide +kernel)
    · rfl
  subst this
  exact h1
theorem inv3 (s : Sto) : m_nim_inverse s [.d (.int 3)] = some (.d (.int 2), s) := by
  obtain ⟨b, h1, h2, h3⟩ := inverse_ok (a := 3) (by decide) (by decide) s
  have e : 2 ^ 2 ^ lv 3 = 4 := by decide
  rw [e] at h2
  have h4 : np 6 3 b = np 1 3 b := NF.np_le (by decide) (by decide) (by omega)
  rw [show NP 3 b = np 6 3 b from rfl, h4] at h3
  have : b = 2 := by
    have : b = 0 ∨ b = 1 ∨ b = 2 ∨ b = 3 := by omega
    rcases this with rfl | rfl | rfl | rfl
    · exact absurd h3 (by decide +kernel)
    · exact absurd h3 (by decide +kernel)
    · rfl
    · exact absurd h3 (by decide +kernel)
  subst this
  exact h1
theorem Ri_tupP {m : ME} {e : Lo} {s : Sto} {Qi : List D → Option (Nat × List D) → Sto → Prop} (h : R (m e s) fun d s1 => ∃ xs, d = .d (.tuple xs) ∧ Qi (xs.map .d) none s1) : Ri (iTupl m e s) Qi := by
  obtain ⟨_, s1, h1, xs, rfl, h2⟩ := h
  refine ⟨_, _, _, ?_, h2⟩
  unfold iTupl
  rw [h1]
theorem run {ns : List Int} (hl : ns.length ≤ 63) : ∃ s', m_law [] [.d (.list (ns.map .int))] = some (.d (.bool true), s') := by
  suffices h : R (m_law [] [.d (.list (ns.map .int))]) fun d _ => d = .d (.bool true) by
    obtain ⟨_, s', h, rfl⟩ := h
    exact ⟨s', h⟩
  unfold m_law b_law
  rw [R_fn]
  refine ⟨rfl, ?_⟩
  simp only [Rs_seq, Rs_set, R_call, R_cons, R_nil, R_Var]
  simp only [List.map_cons, List.map_nil, List.cons_append, List.nil_append, List.getElem?_cons_zero]
  refine R_box fun s0 t0 => ?_
  simp only [N.thn_nx, Rs_seq]
  simp only [List.length_cons, List.length_nil, Nat.reduceSub, Nat.reduceAdd, List.replicate_succ, List.replicate_zero, List.cons_append, List.nil_append, List.set_cons_succ, List.set_cons_zero]
  rw [Rs_set, R_dic]
  have l0 : s0.length = 2 := t0.len
  rw [l0]
  simp only [List.set_cons_succ, List.set_cons_zero]
  rw [N.thn_nx, Rs_seq]
  refine Rs_for (List.range 6) (fun k => .d (.int (k : Nat))) (fun k e s' => (∃ M, PO M ∧ BS [DP M] s') ∧ e = [some (.d (.list (ns.map .int))), some (.r 1), some (.r 2), none, none, none, none, none, none, none, none, none, none, none, none, none, none]) ?_ (fun k x e s' hk hq => ?_) (fun e s' hq => ?_)
  · rw [Ri_rng1]
    simp only [Rs_nil, R_call, R_cons, R_nil, R_Var, R_C, R_bin, R_cmp, R_tcmp, R_tOr, R_tAnd, R_tNot, R_tVal, R_tTrue, R_ite, R_eAnd, R_eOr, R_eNot, R_neg, R_tup, R_isi, R_some, Rc_some, N.v_eq, N.v_ne, N.v_lt, N.v_le, N.v_gt, N.v_ge, N.v_add, N.v_sub, N.v_iadd, N.v_xor, N.v_int, N.tru_b, N.pd_d, N.data_nil, N.data_cons, N.len_t, N.v_tupT, N.g_name, N.isNone_n, N.isNone_t, N.isNone_i, N.v_isN, N.v_isNn, N.v_eqB, N.v_neB, List.set_cons_succ, List.set_cons_zero, List.getElem?_cons_succ, List.getElem?_cons_zero, Bool.not_true, Bool.not_false, Bool.false_eq_true, Bool.true_eq_false, eq_self, true_implies, false_implies, true_and, and_true, decide_true, decide_false, Int.zero_add, N.R_sl, N.R_it, R_oNone, R_oSome, wipeN, N.R_lst, N.R_mkF, N.R_mkT, N.R_meth, N.v_addT, Ri_rng1, Ri_rng2, Ri_seq]
    exact ⟨by decide, rng0N (by decide), ⟨[], ⟨List.nodup_nil, by simp⟩, t0.app [.dic []]⟩⟩
  · obtain ⟨⟨M, hM, t1⟩, rfl⟩ := hq
    rw [g_name, Rc_some, Rs_seq, Rs_par]
    simp only [Rs_nil, R_call, R_cons, R_nil, R_Var, R_C, R_bin, R_cmp, R_tcmp, R_tOr, R_tAnd, R_tNot, R_tVal, R_tTrue, R_ite, R_eAnd, R_eOr, R_eNot, R_neg, R_tup, R_isi, R_some, Rc_some, N.v_eq, N.v_ne, N.v_lt, N.v_le, N.v_gt, N.v_ge, N.v_add, N.v_sub, N.v_iadd, N.v_xor, N.v_int, N.tru_b, N.pd_d, N.data_nil, N.data_cons, N.len_t, N.v_tupT, N.g_name, N.isNone_n, N.isNone_t, N.isNone_i, N.v_isN, N.v_isNn, N.v_eqB, N.v_neB, List.set_cons_succ, List.set_cons_zero, List.getElem?_cons_succ, List.getElem?_cons_zero, Bool.not_true, Bool.not_false, Bool.false_eq_true, Bool.true_eq_false, eq_self, true_implies, false_implies, true_and, and_true, decide_true, decide_false, Int.zero_add, N.R_sl, N.R_it, R_oNone, R_oSome, wipeN, N.R_lst, N.R_mkF, N.R_mkT, N.R_meth, N.v_addT, Ri_rng1, Ri_rng2, Ri_seq]
    refine R_draw t1 (m := 16) (by decide) (by decide) fun a s2 ha t2 => ?_
    refine R_draw t2 (m := 16) (by decide) (by decide) fun b s3 hb t3 => ?_
    refine ⟨by simp, ?_⟩
    simp only [List.zip_cons_cons, List.zip_nil_right, List.foldl_cons, List.foldl_nil, List.set_cons_succ, List.set_cons_zero]
    rw [thn_nx, Rs_seq, Rs_if]
    simp only [Rs_nil, R_call, R_cons, R_nil, R_Var, R_C, R_bin, R_cmp, R_tcmp, R_tOr, R_tAnd, R_tNot, R_tVal, R_tTrue, R_ite, R_eAnd, R_eOr, R_eNot, R_neg, R_tup, R_isi, R_some, Rc_some, N.v_eq, N.v_ne, N.v_lt, N.v_le, N.v_gt, N.v_ge, N.v_add, N.v_sub, N.v_iadd, N.v_xor, N.v_int, N.tru_b, N.pd_d, N.data_nil, N.data_cons, N.len_t, N.v_tupT, N.g_name, N.isNone_n, N.isNone_t, N.isNone_i, N.v_isN, N.v_isNn, N.v_eqB, N.v_neB, List.set_cons_succ, List.set_cons_zero, List.getElem?_cons_succ, List.getElem?_cons_zero, Bool.not_true, Bool.not_false, Bool.false_eq_true, Bool.true_eq_false, eq_self, true_implies, false_implies, true_and, and_true, decide_true, decide_false, Int.zero_add, N.R_sl, N.R_it, R_oNone, R_oSome, wipeN, N.R_lst, N.R_mkF, N.R_mkT, N.R_meth, N.v_addT, Ri_rng1, Ri_rng2, Ri_seq, nprod (show a < 2 ^ 64 by omega) (show b < 2 ^ 64 by omega)]
    refine R.imp (product_ok 40 a b s3 M 2 (by omega) ha hb (t3.get 0) hM) fun d s4 hq => ?_
    obtain ⟨rfl, M', hM', rfl⟩ := hq
    have t4 : BS [DP M'] (s3.set 2 (DP M')) := t3.put 0 (DP M')
    rw [show NP a b = mT a b from NF.np_le (n := 2) (by decide) (by rw [show 2 ^ 2 ^ 2 = 16 from rfl]; omega) (by rw [show 2 ^ 2 ^ 2 = 16 from rfl]; omega)]
    refine R_same (n := 6) (sI 5 _) ?_
    simp only [Rs_nil, R_call, R_cons, R_nil, R_Var, R_C, R_bin, R_cmp, R_tcmp, R_tOr, R_tAnd, R_tNot, R_tVal, R_tTrue, R_ite, R_eAnd, R_eOr, R_eNot, R_neg, R_tup, R_isi, R_some, Rc_some, N.v_eq, N.v_ne, N.v_lt, N.v_le, N.v_gt, N.v_ge, N.v_add, N.v_sub, N.v_iadd, N.v_xor, N.v_int, N.tru_b, N.pd_d, N.data_nil, N.data_cons, N.len_t, N.v_tupT, N.g_name, N.isNone_n, N.isNone_t, N.isNone_i, N.v_isN, N.v_isNn, N.v_eqB, N.v_neB, List.set_cons_succ, List.set_cons_zero, List.getElem?_cons_succ, List.getElem?_cons_zero, Bool.not_true, Bool.not_false, Bool.false_eq_true, Bool.true_eq_false, eq_self, true_implies, false_implies, true_and, and_true, decide_true, decide_false, Int.zero_add, N.R_sl, N.R_it, R_oNone, R_oSome, wipeN, N.R_lst, N.R_mkF, N.R_mkT, N.R_meth, N.v_addT, Ri_rng1, Ri_rng2, Ri_seq]
    try rw [Rs_nil]
    rw [thn_nx, Rs_nil, aft_nx, trimE_len (by rw [t4.len, t1.len]; rfl)]
    exact ⟨⟨M', hM', t4⟩, by simp [wipeN]⟩
  · obtain ⟨⟨M, hM, t1⟩, rfl⟩ := hq
    rw [thn_nx, Rs_seq]
    generalize [DP M] = rest at t1
    refine Rs.imp (Q := fun fl e s' => fl = .nx ∧ BS rest s' ∧ e = [some (.d (.list (ns.map .int))), some (.r 1), some (.r 2), none, none, none, none, none, none, none, none, none, none, none, none, none, none]) ?_ ?_
    · have hh : R (eTup (aCons (eC (.int 4)) (aCons (eC (.int 8)) (aCons (eC (.int 16)) (aCons (eIt (eLst false (aCons (eC (.int 32)) (aCons (eC (.int 64)) aNil))) (eCall m__law_draw (aCons (eVar 1) (aCons (eC (.int 2)) aNil)))) aNil)))) [some (.d (.list (ns.map .int))), some (.r 1), some (.r 2), none, none, none, none, none, none, none, none, none, none, none, none, none, none] s') fun d s1 => ∃ j : Nat, j ≤ 6 ∧ d = .d (.tuple [.int ((2 ^ 2 : Nat) : Nat), .int ((2 ^ 3 : Nat) : Nat), .int ((2 ^ 4 : Nat) : Nat), .int ((2 ^ j : Nat) : Nat)]) ∧ BS rest s1 := by
        simp only [Rs_nil, R_call, R_cons, R_nil, R_Var, R_C, R_bin, R_cmp, R_tcmp, R_tOr, R_tAnd, R_tNot, R_tVal, R_tTrue, R_ite, R_eAnd, R_eOr, R_eNot, R_neg, R_tup, R_isi, R_some, Rc_some, N.v_eq, N.v_ne, N.v_lt, N.v_le, N.v_gt, N.v_ge, N.v_add, N.v_sub, N.v_iadd, N.v_xor, N.v_int, N.tru_b, N.pd_d, N.data_nil, N.data_cons, N.len_t, N.v_tupT, N.g_name, N.isNone_n, N.isNone_t, N.isNone_i, N.v_isN, N.v_isNn, N.v_eqB, N.v_neB, List.set_cons_succ, List.set_cons_zero, List.getElem?_cons_succ, List.getElem?_cons_zero, Bool.not_true, Bool.not_false, Bool.false_eq_true, Bool.true_eq_false, eq_self, true_implies, false_implies, true_and, and_true, decide_true, decide_false, Int.zero_add, N.R_sl, N.R_it, R_oNone, R_oSome, wipeN, N.R_lst, N.R_mkF, N.R_mkT, N.R_meth, N.v_addT, Ri_rng1, Ri_rng2, Ri_seq]
        refine ⟨by simp [lim], ?_⟩
        refine R_draw t1 (m := 2) (by decide) (by decide) fun d s2 hd t2 => ?_
        have : d = 0 ∨ d = 1 := by omega
        rcases this with rfl | rfl
        · rw [show itF s2 (.d (.list [.int 32, .int 64])) (.d (.int ((0 : Nat) : Int))) = some (.d (.int 32)) from itF_tl rfl]
          simp only [Rs_nil, R_call, R_cons, R_nil, R_Var, R_C, R_bin, R_cmp, R_tcmp, R_tOr, R_tAnd, R_tNot, R_tVal, R_tTrue, R_ite, R_eAnd, R_eOr, R_eNot, R_neg, R_tup, R_isi, R_some, Rc_some, N.v_eq, N.v_ne, N.v_lt, N.v_le, N.v_gt, N.v_ge, N.v_add, N.v_sub, N.v_iadd, N.v_xor, N.v_int, N.tru_b, N.pd_d, N.data_nil, N.data_cons, N.len_t, N.v_tupT, N.g_name, N.isNone_n, N.isNone_t, N.isNone_i, N.v_isN, N.v_isNn, N.v_eqB, N.v_neB, List.set_cons_succ, List.set_cons_zero, List.getElem?_cons_succ, List.getElem?_cons_zero, Bool.not_true, Bool.not_false, Bool.false_eq_true, Bool.true_eq_false, eq_self, true_implies, false_implies, true_and, and_true, decide_true, decide_false, Int.zero_add, N.R_sl, N.R_it, R_oNone, R_oSome, wipeN, N.R_lst, N.R_mkF, N.R_mkT, N.R_meth, N.v_addT, Ri_rng1, Ri_rng2, Ri_seq]
          exact ⟨by simp [lim], 5, by decide, rfl, t2⟩
        · rw [show itF s2 (.d (.list [.int 32, .int 64])) (.d (.int ((1 : Nat) : Int))) = some (.d (.int 64)) from itF_tl rfl]
          simp only [Rs_nil, R_call, R_cons, R_nil, R_Var, R_C, R_bin, R_cmp, R_tcmp, R_tOr, R_tAnd, R_tNot, R_tVal, R_tTrue, R_ite, R_eAnd, R_eOr, R_eNot, R_neg, R_tup, R_isi, R_some, Rc_some, N.v_eq, N.v_ne, N.v_lt, N.v_le, N.v_gt, N.v_ge, N.v_add, N.v_sub, N.v_iadd, N.v_xor, N.v_int, N.tru_b, N.pd_d, N.data_nil, N.data_cons, N.len_t, N.v_tupT, N.g_name, N.isNone_n, N.isNone_t, N.isNone_i, N.v_isN, N.v_isNn, N.v_eqB, N.v_neB, List.set_cons_succ, List.set_cons_zero, List.getElem?_cons_succ, List.getElem?_cons_zero, Bool.not_true, Bool.not_false, Bool.false_eq_true, Bool.true_eq_false, eq_self, true_implies, false_implies, true_and, and_true, decide_true, decide_false, Int.zero_add, N.R_sl, N.R_it, R_oNone, R_oSome, wipeN, N.R_lst, N.R_mkF, N.R_mkT, N.R_meth, N.v_addT, Ri_rng1, Ri_rng2, Ri_seq]
          exact ⟨by simp [lim], 6, by decide, rfl, t2⟩
      obtain ⟨d0, s2, hd0, j, hj, rfl, t2⟩ := hh
      refine Rs_for [2, 3, 4, j] (fun j => .d (.int ((2 ^ j : Nat) : Nat))) (fun k e s' => BS rest s' ∧ e = [some (.d (.list (ns.map .int))), some (.r 1), some (.r 2), none, none, none, none, none, none, none, none, none, none, none, none, none, none]) ?_ (fun k x e s' hk hq => ?_) (fun e s' hq => ?_)
      · refine Ri_tupP (.of hd0 ⟨_, rfl, rfl, rfl, t2, rfl⟩)
      · obtain ⟨t3, rfl⟩ := hq
        have hx : x ≤ 6 := by
          have := List.mem_of_getElem? hk
          simp at this
          omega
        rw [g_name, Rc_some]
        simp only [List.set_cons_succ, List.set_cons_zero]
        refine bits_ok hx t3 _ _ _ _ _ _ _ _ fun s4 x4 x5 x6 x7 x8 x9 x10 x11 t4 => ?_
        rw [aft_nx, trimE_len (by rw [t4.len, t3.len])]
        exact ⟨t4, by simp [wipeN]⟩
      · exact ⟨rfl, hq.1, hq.2⟩
    · rintro fl e s2 ⟨rfl, t2, rfl⟩
      rw [thn_nx, Rs_seq, Rs_set]
      refine R_lcm (List.range 6) (fun k => .d (.int (k : Nat))) (fun k => .int ((2 ^ 2 ^ k : Nat) : Nat)) ?_ (fun k hk acc => ?_) (by simp [lim]) ?_
      · rw [Ri_rng1]
        simp only [Rs_nil, R_call, R_cons, R_nil, R_Var, R_C, R_bin, R_cmp, R_tcmp, R_tOr, R_tAnd, R_tNot, R_tVal, R_tTrue, R_ite, R_eAnd, R_eOr, R_eNot, R_neg, R_tup, R_isi, R_some, Rc_some, N.v_eq, N.v_ne, N.v_lt, N.v_le, N.v_gt, N.v_ge, N.v_add, N.v_sub, N.v_iadd, N.v_xor, N.v_int, N.tru_b, N.pd_d, N.data_nil, N.data_cons, N.len_t, N.v_tupT, N.g_name, N.isNone_n, N.isNone_t, N.isNone_i, N.v_isN, N.v_isNn, N.v_eqB, N.v_neB, List.set_cons_succ, List.set_cons_zero, List.getElem?_cons_succ, List.getElem?_cons_zero, Bool.not_true, Bool.not_false, Bool.false_eq_true, Bool.true_eq_false, eq_self, true_implies, false_implies, true_and, and_true, decide_true, decide_false, Int.zero_add, N.R_sl, N.R_it, R_oNone, R_oSome, wipeN, N.R_lst, N.R_mkF, N.R_mkT, N.R_meth, N.v_addT, Ri_rng1, Ri_rng2, Ri_seq]
        exact ⟨by decide, rng0N (by decide)⟩
      · have hk := List.mem_range.mp hk
        rw [g_name, Rc_some]
        have k32 : 2 ^ k ≤ 2 ^ 5 := Nat.pow_le_pow_right (by decide) (by omega)
        simp only [Rs_nil, R_call, R_cons, R_nil, R_Var, R_C, R_bin, R_cmp, R_tcmp, R_tOr, R_tAnd, R_tNot, R_tVal, R_tTrue, R_ite, R_eAnd, R_eOr, R_eNot, R_neg, R_tup, R_isi, R_some, Rc_some, N.v_eq, N.v_ne, N.v_lt, N.v_le, N.v_gt, N.v_ge, N.v_add, N.v_sub, N.v_iadd, N.v_xor, N.v_int, N.tru_b, N.pd_d, N.data_nil, N.data_cons, N.len_t, N.v_tupT, N.g_name, N.isNone_n, N.isNone_t, N.isNone_i, N.v_isN, N.v_isNn, N.v_eqB, N.v_neB, List.set_cons_succ, List.set_cons_zero, List.getElem?_cons_succ, List.getElem?_cons_zero, Bool.not_true, Bool.not_false, Bool.false_eq_true, Bool.true_eq_false, eq_self, true_implies, false_implies, true_and, and_true, decide_true, decide_false, Int.zero_add, N.R_sl, N.R_it, R_oNone, R_oSome, wipeN, N.R_lst, N.R_mkF, N.R_mkT, N.R_meth, N.v_addT, Ri_rng1, Ri_rng2, Ri_seq, sh1 (show k ≤ 1000 by omega), sh1 (show 2 ^ k ≤ 1000 by omega)]
        try first | exact ⟨rfl, rfl⟩ | trivial
      simp only [List.set_cons_succ, List.set_cons_zero]
      rw [thn_nx, Rs_seq, Rs_par]
      simp only [Rs_nil, R_call, R_cons, R_nil, R_Var, R_C, R_bin, R_cmp, R_tcmp, R_tOr, R_tAnd, R_tNot, R_tVal, R_tTrue, R_ite, R_eAnd, R_eOr, R_eNot, R_neg, R_tup, R_isi, R_some, Rc_some, N.v_eq, N.v_ne, N.v_lt, N.v_le, N.v_gt, N.v_ge, N.v_add, N.v_sub, N.v_iadd, N.v_xor, N.v_int, N.tru_b, N.pd_d, N.data_nil, N.data_cons, N.len_t, N.v_tupT, N.g_name, N.isNone_n, N.isNone_t, N.isNone_i, N.v_isN, N.v_isNn, N.v_eqB, N.v_neB, List.set_cons_succ, List.set_cons_zero, List.getElem?_cons_succ, List.getElem?_cons_zero, Bool.not_true, Bool.not_false, Bool.false_eq_true, Bool.true_eq_false, eq_self, true_implies, false_implies, true_and, and_true, decide_true, decide_false, Int.zero_add, N.R_sl, N.R_it, R_oNone, R_oSome, wipeN, N.R_lst, N.R_mkF, N.R_mkT, N.R_meth, N.v_addT, Ri_rng1, Ri_rng2, Ri_seq]
      refine R_draw t2 (m := 6) (by decide) (by decide) fun i s3 hi t3 => ?_
      refine R_draw t3 (m := 6) (by decide) (by decide) fun j s4 hj t4 => ?_
      refine ⟨by simp, ?_⟩
      simp only [List.zip_cons_cons, List.zip_nil_right, List.foldl_cons, List.foldl_nil, List.set_cons_succ, List.set_cons_zero]
      have hit : ∀ k, k < 6 → ∀ s : Sto, itF s (.d (.list ((List.range 6).map fun k => .int ((2 ^ 2 ^ k : Nat) : Nat)))) (.d (.int (k : Nat))) = some (.d (.int ((2 ^ 2 ^ k : Nat) : Nat))) := fun k hk s => itF_tl (N.atI_nat (by rw [List.getElem?_map, List.getElem?_range hk]; rfl))
      have pi := pows i hi
      have pj := pows j hj
      rw [thn_nx, Rs_seq, Rs_set]
      simp only [Rs_nil, R_call, R_cons, R_nil, R_Var, R_C, R_bin, R_cmp, R_tcmp, R_tOr, R_tAnd, R_tNot, R_tVal, R_tTrue, R_ite, R_eAnd, R_eOr, R_eNot, R_neg, R_tup, R_isi, R_some, Rc_some, N.v_eq, N.v_ne, N.v_lt, N.v_le, N.v_gt, N.v_ge, N.v_add, N.v_sub, N.v_iadd, N.v_xor, N.v_int, N.tru_b, N.pd_d, N.data_nil, N.data_cons, N.len_t, N.v_tupT, N.g_name, N.isNone_n, N.isNone_t, N.isNone_i, N.v_isN, N.v_isNn, N.v_eqB, N.v_neB, List.set_cons_succ, List.set_cons_zero, List.getElem?_cons_succ, List.getElem?_cons_zero, Bool.not_true, Bool.not_false, Bool.false_eq_true, Bool.true_eq_false, eq_self, true_implies, false_implies, true_and, and_true, decide_true, decide_false, Int.zero_add, N.R_sl, N.R_it, R_oNone, R_oSome, wipeN, N.R_lst, N.R_mkF, N.R_mkT, N.R_meth, N.v_addT, Ri_rng1, Ri_rng2, Ri_seq, hit i hi]
      rw [thn_nx, Rs_seq, Rs_if]
      simp only [Rs_nil, R_call, R_cons, R_nil, R_Var, R_C, R_bin, R_cmp, R_tcmp, R_tOr, R_tAnd, R_tNot, R_tVal, R_tTrue, R_ite, R_eAnd, R_eOr, R_eNot, R_neg, R_tup, R_isi, R_some, Rc_some, N.v_eq, N.v_ne, N.v_lt, N.v_le, N.v_gt, N.v_ge, N.v_add, N.v_sub, N.v_iadd, N.v_xor, N.v_int, N.tru_b, N.pd_d, N.data_nil, N.data_cons, N.len_t, N.v_tupT, N.g_name, N.isNone_n, N.isNone_t, N.isNone_i, N.v_isN, N.v_isNn, N.v_eqB, N.v_neB, List.set_cons_succ, List.set_cons_zero, List.getElem?_cons_succ, List.getElem?_cons_zero, Bool.not_true, Bool.not_false, Bool.false_eq_true, Bool.true_eq_false, eq_self, true_implies, false_implies, true_and, and_true, decide_true, decide_false, Int.zero_add, N.R_sl, N.R_it, R_oNone, R_oSome, wipeN, N.R_lst, N.R_mkF, N.R_mkT, N.R_meth, N.v_addT, Ri_rng1, Ri_rng2, Ri_seq, nprod pi pi, highsq hi]
      rw [N.v_div (show (0 : Int) < 2 by decide) (by decide)]
      simp only [Rs_nil, R_call, R_cons, R_nil, R_Var, R_C, R_bin, R_cmp, R_tcmp, R_tOr, R_tAnd, R_tNot, R_tVal, R_tTrue, R_ite, R_eAnd, R_eOr, R_eNot, R_neg, R_tup, R_isi, R_some, Rc_some, N.v_eq, N.v_ne, N.v_lt, N.v_le, N.v_gt, N.v_ge, N.v_add, N.v_sub, N.v_iadd, N.v_xor, N.v_int, N.tru_b, N.pd_d, N.data_nil, N.data_cons, N.len_t, N.v_tupT, N.g_name, N.isNone_n, N.isNone_t, N.isNone_i, N.v_isN, N.v_isNn, N.v_eqB, N.v_neB, List.set_cons_succ, List.set_cons_zero, List.getElem?_cons_succ, List.getElem?_cons_zero, Bool.not_true, Bool.not_false, Bool.false_eq_true, Bool.true_eq_false, eq_self, true_implies, false_implies, true_and, and_true, decide_true, decide_false, Int.zero_add, N.R_sl, N.R_it, R_oNone, R_oSome, wipeN, N.R_lst, N.R_mkF, N.R_mkT, N.R_meth, N.v_addT, Ri_rng1, Ri_rng2, Ri_seq]
      rw [show ((2 ^ 2 ^ i : Nat) : Int) + ((2 ^ 2 ^ i : Nat) : Int) / 2 = ((2 ^ 2 ^ i + 2 ^ 2 ^ i / 2 : Nat) : Int) by omega]
      refine R_same (n := 6) (sI 5 _) ?_
      simp only [Rs_nil, R_call, R_cons, R_nil, R_Var, R_C, R_bin, R_cmp, R_tcmp, R_tOr, R_tAnd, R_tNot, R_tVal, R_tTrue, R_ite, R_eAnd, R_eOr, R_eNot, R_neg, R_tup, R_isi, R_some, Rc_some, N.v_eq, N.v_ne, N.v_lt, N.v_le, N.v_gt, N.v_ge, N.v_add, N.v_sub, N.v_iadd, N.v_xor, N.v_int, N.tru_b, N.pd_d, N.data_nil, N.data_cons, N.len_t, N.v_tupT, N.g_name, N.isNone_n, N.isNone_t, N.isNone_i, N.v_isN, N.v_isNn, N.v_eqB, N.v_neB, List.set_cons_succ, List.set_cons_zero, List.getElem?_cons_succ, List.getElem?_cons_zero, Bool.not_true, Bool.not_false, Bool.false_eq_true, Bool.true_eq_false, eq_self, true_implies, false_implies, true_and, and_true, decide_true, decide_false, Int.zero_add, N.R_sl, N.R_it, R_oNone, R_oSome, wipeN, N.R_lst, N.R_mkF, N.R_mkT, N.R_meth, N.v_addT, Ri_rng1, Ri_rng2, Ri_seq]
      try rw [Rs_nil]
      rw [thn_nx, Rs_seq, Rs_if]
      simp only [Rs_nil, R_call, R_cons, R_nil, R_Var, R_C, R_bin, R_cmp, R_tcmp, R_tOr, R_tAnd, R_tNot, R_tVal, R_tTrue, R_ite, R_eAnd, R_eOr, R_eNot, R_neg, R_tup, R_isi, R_some, Rc_some, N.v_eq, N.v_ne, N.v_lt, N.v_le, N.v_gt, N.v_ge, N.v_add, N.v_sub, N.v_iadd, N.v_xor, N.v_int, N.tru_b, N.pd_d, N.data_nil, N.data_cons, N.len_t, N.v_tupT, N.g_name, N.isNone_n, N.isNone_t, N.isNone_i, N.v_isN, N.v_isNn, N.v_eqB, N.v_neB, List.set_cons_succ, List.set_cons_zero, List.getElem?_cons_succ, List.getElem?_cons_zero, Bool.not_true, Bool.not_false, Bool.false_eq_true, Bool.true_eq_false, eq_self, true_implies, false_implies, true_and, and_true, decide_true, decide_false, Int.zero_add, N.R_sl, N.R_it, R_oNone, R_oSome, wipeN, N.R_lst, N.R_mkF, N.R_mkT, N.R_meth, N.v_addT, Ri_rng1, Ri_rng2, Ri_seq, hit j hj, nprod pi pj, mulP pi pj]
      have nij : i ≠ j → NP (2 ^ 2 ^ i) (2 ^ 2 ^ j) = 2 ^ 2 ^ i * 2 ^ 2 ^ j := fun hne => by
        rcases Nat.lt_or_gt_of_ne hne with h | h
        · show np 6 _ _ = _
          rw [NF.np_comm]
          show NP _ _ = _
          rw [high_ok hj (Nat.pow_lt_pow_right (by decide) (Nat.pow_lt_pow_right (by decide) h)), Nat.mul_comm]
        · exact high_ok hi (Nat.pow_lt_pow_right (by decide) (Nat.pow_lt_pow_right (by decide) h))
      refine ⟨fun h => ?_, fun h => ?_⟩
      · have h : i ≠ j := fun e => by rw [e] at h; simp at h
        rw [nij h]
        refine R_same (n := 6) (sI 5 _) ?_
        simp only [Rs_nil, R_call, R_cons, R_nil, R_Var, R_C, R_bin, R_cmp, R_tcmp, R_tOr, R_tAnd, R_tNot, R_tVal, R_tTrue, R_ite, R_eAnd, R_eOr, R_eNot, R_neg, R_tup, R_isi, R_some, Rc_some, N.v_eq, N.v_ne, N.v_lt, N.v_le, N.v_gt, N.v_ge, N.v_add, N.v_sub, N.v_iadd, N.v_xor, N.v_int, N.tru_b, N.pd_d, N.data_nil, N.data_cons, N.len_t, N.v_tupT, N.g_name, N.isNone_n, N.isNone_t, N.isNone_i, N.v_isN, N.v_isNn, N.v_eqB, N.v_neB, List.set_cons_succ, List.set_cons_zero, List.getElem?_cons_succ, List.getElem?_cons_zero, Bool.not_true, Bool.not_false, Bool.false_eq_true, Bool.true_eq_false, eq_self, true_implies, false_implies, true_and, and_true, decide_true, decide_false, Int.zero_add, N.R_sl, N.R_it, R_oNone, R_oSome, wipeN, N.R_lst, N.R_mkF, N.R_mkT, N.R_meth, N.v_addT, Ri_rng1, Ri_rng2, Ri_seq]
        try rw [Rs_nil]
        rw [thn_nx, Rs_seq, Rs_set]
        simp only [Rs_nil, R_call, R_cons, R_nil, R_Var, R_C, R_bin, R_cmp, R_tcmp, R_tOr, R_tAnd, R_tNot, R_tVal, R_tTrue, R_ite, R_eAnd, R_eOr, R_eNot, R_neg, R_tup, R_isi, R_some, Rc_some, N.v_eq, N.v_ne, N.v_lt, N.v_le, N.v_gt, N.v_ge, N.v_add, N.v_sub, N.v_iadd, N.v_xor, N.v_int, N.tru_b, N.pd_d, N.data_nil, N.data_cons, N.len_t, N.v_tupT, N.g_name, N.isNone_n, N.isNone_t, N.isNone_i, N.v_isN, N.v_isNn, N.v_eqB, N.v_neB, List.set_cons_succ, List.set_cons_zero, List.getElem?_cons_succ, List.getElem?_cons_zero, Bool.not_true, Bool.not_false, Bool.false_eq_true, Bool.true_eq_false, eq_self, true_implies, false_implies, true_and, and_true, decide_true, decide_false, Int.zero_add, N.R_sl, N.R_it, R_oNone, R_oSome, wipeN, N.R_lst, N.R_mkF, N.R_mkT, N.R_meth, N.v_addT, Ri_rng1, Ri_rng2, Ri_seq]
        refine R_draw t4 (m := 2 ^ 2 ^ i) (Nat.two_pow_pos _) (by omega) fun a s5 ha t5 => ?_
        rw [thn_nx, Rs_seq, Rs_ret]
        simp only [Rs_nil, R_call, R_cons, R_nil, R_Var, R_C, R_bin, R_cmp, R_tcmp, R_tOr, R_tAnd, R_tNot, R_tVal, R_tTrue, R_ite, R_eAnd, R_eOr, R_eNot, R_neg, R_tup, R_isi, R_some, Rc_some, N.v_eq, N.v_ne, N.v_lt, N.v_le, N.v_gt, N.v_ge, N.v_add, N.v_sub, N.v_iadd, N.v_xor, N.v_int, N.tru_b, N.pd_d, N.data_nil, N.data_cons, N.len_t, N.v_tupT, N.g_name, N.isNone_n, N.isNone_t, N.isNone_i, N.v_isN, N.v_isNn, N.v_eqB, N.v_neB, List.set_cons_succ, List.set_cons_zero, List.getElem?_cons_succ, List.getElem?_cons_zero, Bool.not_true, Bool.not_false, Bool.false_eq_true, Bool.true_eq_false, eq_self, true_implies, false_implies, true_and, and_true, decide_true, decide_false, Int.zero_add, N.R_sl, N.R_it, R_oNone, R_oSome, wipeN, N.R_lst, N.R_mkF, N.R_mkT, N.R_meth, N.v_addT, Ri_rng1, Ri_rng2, Ri_seq, nprod pi (show a < 2 ^ 64 by omega), high_ok hi ha, mulP pi (show a < 2 ^ 64 by omega)]
        refine R_same (n := 6) (sI 5 _) ?_
        simp only [Rs_nil, R_call, R_cons, R_nil, R_Var, R_C, R_bin, R_cmp, R_tcmp, R_tOr, R_tAnd, R_tNot, R_tVal, R_tTrue, R_ite, R_eAnd, R_eOr, R_eNot, R_neg, R_tup, R_isi, R_some, Rc_some, N.v_eq, N.v_ne, N.v_lt, N.v_le, N.v_gt, N.v_ge, N.v_add, N.v_sub, N.v_iadd, N.v_xor, N.v_int, N.tru_b, N.pd_d, N.data_nil, N.data_cons, N.len_t, N.v_tupT, N.g_name, N.isNone_n, N.isNone_t, N.isNone_i, N.v_isN, N.v_isNn, N.v_eqB, N.v_neB, List.set_cons_succ, List.set_cons_zero, List.getElem?_cons_succ, List.getElem?_cons_zero, Bool.not_true, Bool.not_false, Bool.false_eq_true, Bool.true_eq_false, eq_self, true_implies, false_implies, true_and, and_true, decide_true, decide_false, Int.zero_add, N.R_sl, N.R_it, R_oNone, R_oSome, wipeN, N.R_lst, N.R_mkF, N.R_mkT, N.R_meth, N.v_addT, Ri_rng1, Ri_rng2, Ri_seq, refused_ok, inv1, inv2, inv3]
        refine ⟨by simp [lim], by simp [lim], ?_⟩
        refine R_same (n := 6) (sok_tup (by simp [lim]) fun y hy => ?_) ?_
        · simp at hy
          rcases hy with rfl | rfl | rfl <;> exact sok_int 4 _
        rw [thn_rt]
        exact R_retd.mpr rfl
      · try rw [Rs_nil]
        rw [thn_nx, Rs_seq, Rs_set]
        simp only [Rs_nil, R_call, R_cons, R_nil, R_Var, R_C, R_bin, R_cmp, R_tcmp, R_tOr, R_tAnd, R_tNot, R_tVal, R_tTrue, R_ite, R_eAnd, R_eOr, R_eNot, R_neg, R_tup, R_isi, R_some, Rc_some, N.v_eq, N.v_ne, N.v_lt, N.v_le, N.v_gt, N.v_ge, N.v_add, N.v_sub, N.v_iadd, N.v_xor, N.v_int, N.tru_b, N.pd_d, N.data_nil, N.data_cons, N.len_t, N.v_tupT, N.g_name, N.isNone_n, N.isNone_t, N.isNone_i, N.v_isN, N.v_isNn, N.v_eqB, N.v_neB, List.set_cons_succ, List.set_cons_zero, List.getElem?_cons_succ, List.getElem?_cons_zero, Bool.not_true, Bool.not_false, Bool.false_eq_true, Bool.true_eq_false, eq_self, true_implies, false_implies, true_and, and_true, decide_true, decide_false, Int.zero_add, N.R_sl, N.R_it, R_oNone, R_oSome, wipeN, N.R_lst, N.R_mkF, N.R_mkT, N.R_meth, N.v_addT, Ri_rng1, Ri_rng2, Ri_seq]
        refine R_draw t4 (m := 2 ^ 2 ^ i) (Nat.two_pow_pos _) (by omega) fun a s5 ha t5 => ?_
        rw [thn_nx, Rs_seq, Rs_ret]
        simp only [Rs_nil, R_call, R_cons, R_nil, R_Var, R_C, R_bin, R_cmp, R_tcmp, R_tOr, R_tAnd, R_tNot, R_tVal, R_tTrue, R_ite, R_eAnd, R_eOr, R_eNot, R_neg, R_tup, R_isi, R_some, Rc_some, N.v_eq, N.v_ne, N.v_lt, N.v_le, N.v_gt, N.v_ge, N.v_add, N.v_sub, N.v_iadd, N.v_xor, N.v_int, N.tru_b, N.pd_d, N.data_nil, N.data_cons, N.len_t, N.v_tupT, N.g_name, N.isNone_n, N.isNone_t, N.isNone_i, N.v_isN, N.v_isNn, N.v_eqB, N.v_neB, List.set_cons_succ, List.set_cons_zero, List.getElem?_cons_succ, List.getElem?_cons_zero, Bool.not_true, Bool.not_false, Bool.false_eq_true, Bool.true_eq_false, eq_self, true_implies, false_implies, true_and, and_true, decide_true, decide_false, Int.zero_add, N.R_sl, N.R_it, R_oNone, R_oSome, wipeN, N.R_lst, N.R_mkF, N.R_mkT, N.R_meth, N.v_addT, Ri_rng1, Ri_rng2, Ri_seq, nprod pi (show a < 2 ^ 64 by omega), high_ok hi ha, mulP pi (show a < 2 ^ 64 by omega)]
        refine R_same (n := 6) (sI 5 _) ?_
        simp only [Rs_nil, R_call, R_cons, R_nil, R_Var, R_C, R_bin, R_cmp, R_tcmp, R_tOr, R_tAnd, R_tNot, R_tVal, R_tTrue, R_ite, R_eAnd, R_eOr, R_eNot, R_neg, R_tup, R_isi, R_some, Rc_some, N.v_eq, N.v_ne, N.v_lt, N.v_le, N.v_gt, N.v_ge, N.v_add, N.v_sub, N.v_iadd, N.v_xor, N.v_int, N.tru_b, N.pd_d, N.data_nil, N.data_cons, N.len_t, N.v_tupT, N.g_name, N.isNone_n, N.isNone_t, N.isNone_i, N.v_isN, N.v_isNn, N.v_eqB, N.v_neB, List.set_cons_succ, List.set_cons_zero, List.getElem?_cons_succ, List.getElem?_cons_zero, Bool.not_true, Bool.not_false, Bool.false_eq_true, Bool.true_eq_false, eq_self, true_implies, false_implies, true_and, and_true, decide_true, decide_false, Int.zero_add, N.R_sl, N.R_it, R_oNone, R_oSome, wipeN, N.R_lst, N.R_mkF, N.R_mkT, N.R_meth, N.v_addT, Ri_rng1, Ri_rng2, Ri_seq, refused_ok, inv1, inv2, inv3]
        refine ⟨by simp [lim], by simp [lim], ?_⟩
        refine R_same (n := 6) (sok_tup (by simp [lim]) fun y hy => ?_) ?_
        · simp at hy
          rcases hy with rfl | rfl | rfl <;> exact sok_int 4 _
        rw [thn_rt]
        exact R_retd.mpr rfl
end T61

namespace T61
open PySem L2 PyProof.Rows N
open Z (Dfn)
section
variable {P : Program} {w : World} {K : PySem.W.Frag} {mg : Str → Option Value}
structure Ds (K : PySem.W.Frag) (mg : Str → Option Value) : Prop where
  d_level_of : Dfn K mg "level_of" s_level_of ["a"]
  d_nim_product : Dfn K mg "nim_product" s_nim_product ["a", "b"]
  d_nim_power : Dfn K mg "nim_power" s_nim_power ["a", "k"]
  d_nim_inverse : Dfn K mg "nim_inverse" s_nim_inverse ["a"]
  d_nim_root : Dfn K mg "nim_root" s_nim_root ["a"]
  d__law_box : Dfn K mg "_law_box" s__law_box ["script"]
  d__law_load : Dfn K mg "_law_load" s__law_load ["box"]
  d__law_draw : Dfn K mg "_law_draw" s__law_draw ["box", "many"]
  d__law_same : Dfn K mg "_law_same" s__law_same ["a", "b"]
  d__law_product : Dfn K mg "_law_product" s__law_product ["a", "b", "met"]
  d__law_refused : Dfn K mg "_law_refused" s__law_refused []
  n : Nm mg
  g : Gm mg
  er : Er K mg
theorem all_mk {h : Heap} {fa f2 : Addr} (X : K.In h) (G : h.Ns PySem.mainGlobals mg) (hfa : mg "law" = some (.ref fa)) (D : Ds K mg) {od2 an2 : Option Addr} {sl2 : Array (Option Value)} {oc2 kV2 dc2 pm2 cd2 ct2 : Value}
    (a2 : PySem.W.nsIn K PySem.mainGlobals "law" = some (some (.ref f2))) (l2 : K.lookup f2 = some ⟨oc2, od2, .func (PySem.W.fnOf "law" "law" (defArgs s_law) (defBody s_law) (defScope s_law) .none kV2 dc2 pm2 an2 cd2 ct2), sl2⟩) (c2 : PySem.W.codeIn K cd2 "law" = true) (k2 : PySem.W.keepIn K (.ref f2) = true) :
    ∃ fd : FuncData, (∀ (s : Shared) (v : Value), BindsTo s fd ⟨[v], []⟩ [("script", v)]) ∧ ∀ base : Heap, K.In base → base.Ns PySem.mainGlobals mg → FnOk P w K mg base CX0 42 fa fd ["script"] (spE K) := by
  have e := hfa.symm.trans (PySem.W.mg_of X G a2)
  cases e
  obtain ⟨fd, F2, hB⟩ : ∃ fd, Fun K "law" "law" s_law fa fd ∧ ∀ (s : Shared) (v : Value), BindsTo s fd ⟨[v], []⟩ [("script", v)] := ⟨_, fun_mk (st := s_law) l2 c2 k2, fun s v => .of_eq rfl⟩
  refine ⟨fd, hB, fun base _ _ => ?_⟩
  have h_level_of := c_level_of (P := P) (w := w) (base := base) D.d_level_of D.n D.g 
  have h_nim_product := c_nim_product (P := P) (w := w) (base := base) D.d_nim_product D.n D.g h_level_of
  have h_nim_power := c_nim_power (P := P) (w := w) (base := base) D.d_nim_power D.n D.g (h_nim_product 8)
  have h_nim_inverse := c_nim_inverse (P := P) (w := w) (base := base) D.d_nim_inverse D.n D.g h_level_of h_nim_power
  have hx_nim_inverse := cx_nim_inverse (P := P) (w := w) (base := base) D.d_nim_inverse D.n D.g D.er h_level_of h_nim_power
  have h_nim_root := c_nim_root (P := P) (w := w) (base := base) D.d_nim_root D.n D.g h_level_of (h_nim_product 8)
  have h__law_box := c__law_box (P := P) (w := w) (base := base) D.d__law_box D.n D.g 
  have h__law_load := c__law_load (P := P) (w := w) (base := base) D.d__law_load D.n D.g 
  have h__law_draw := c__law_draw (P := P) (w := w) (base := base) D.d__law_draw D.n D.g h__law_load
  have h__law_same := c__law_same (P := P) (w := w) (base := base) D.d__law_same D.n D.g 
  have h__law_product := c__law_product (P := P) (w := w) (base := base) D.d__law_product D.n D.g 
  have h__law_refused := c__law_refused (P := P) (w := w) (base := base) D.d__law_refused D.n D.g D.er h_nim_inverse hx_nim_inverse
  exact c_law F2 D.n D.g h__law_box h__law_draw (h__law_product 40) h__law_refused (h__law_same 6) h_nim_inverse (h_nim_product 8) h_nim_root fun ns hl => run hl
end
end T61
open PySem PySem.W PyProof.Rows
set_option maxHeartbeats 0 in
theorem PySem.Challenge.cw_cantmove_k61_whole_products_holds : PySem.Challenge.rw_cantmove_k61_whole_products.Holds := by
  w_on; o_law; k_head; (case hw => w_witness2)
  k_fill
  refine L2.walk_ofB (l := PySem.Challenge.rw_cantmove_k61_whole_products) (n := 63) (k := 42) (x := "script") (CX := fun _ => L2.CX0) (sp := fun w => N.spE _) rfl (by decide) rfl ⟨rfl, by decide, by decide⟩ (fun w h Y => PySem.W.kIn_of Y) ?F (fun _ _ a ns hl _ _ hS => N.head_ok hl hS) (fun _ _ _ _ _ h => h)
  case F =>
    intro w mg fa h KX G hmg
    refine' T61.all_mk KX G hmg ?D ?a2 ?l2 ?c2 ?k2
    (case a2 => k_is); (case l2 => k_is); (case c2 => k_is); (case k2 => k_is)
    case D =>
      constructor
      · refine' Z.fn_dfn KX G ?aD ?lD ?cD ?kD (fun _ _ _ _ _ _ us hl => match us, hl with | [_], _ => rfl)
        (case aD => k_is); (case lD => k_is); (case cD => k_is); (case kD => k_is)
      · refine' Z.fn_dfn KX G ?aD ?lD ?cD ?kD (fun _ _ _ _ _ _ us hl => match us, hl with | [_, _], _ => rfl)
        (case aD => k_is); (case lD => k_is); (case cD => k_is); (case kD => k_is)
      · refine' Z.fn_dfn KX G ?aD ?lD ?cD ?kD (fun _ _ _ _ _ _ us hl => match us, hl with | [_, _], _ => rfl)
        (case aD => k_is); (case lD => k_is); (case cD => k_is); (case kD => k_is)
      · refine' Z.fn_dfn KX G ?aD ?lD ?cD ?kD (fun _ _ _ _ _ _ us hl => match us, hl with | [_], _ => rfl)
        (case aD => k_is); (case lD => k_is); (case cD => k_is); (case kD => k_is)
      · refine' Z.fn_dfn KX G ?aD ?lD ?cD ?kD (fun _ _ _ _ _ _ us hl => match us, hl with | [_], _ => rfl)
        (case aD => k_is); (case lD => k_is); (case cD => k_is); (case kD => k_is)
      · refine' Z.fn_dfn KX G ?aD ?lD ?cD ?kD (fun _ _ _ _ _ _ us hl => match us, hl with | [_], _ => rfl)
        (case aD => k_is); (case lD => k_is); (case cD => k_is); (case kD => k_is)
      · refine' Z.fn_dfn KX G ?aD ?lD ?cD ?kD (fun _ _ _ _ _ _ us hl => match us, hl with | [_], _ => rfl)
        (case aD => k_is); (case lD => k_is); (case cD => k_is); (case kD => k_is)
      · refine' Z.fn_dfn KX G ?aD ?lD ?cD ?kD (fun _ _ _ _ _ _ us hl => match us, hl with | [_, _], _ => rfl)
        (case aD => k_is); (case lD => k_is); (case cD => k_is); (case kD => k_is)
      · refine' Z.fn_dfn KX G ?aD ?lD ?cD ?kD (fun _ _ _ _ _ _ us hl => match us, hl with | [_, _], _ => rfl)
        (case aD => k_is); (case lD => k_is); (case cD => k_is); (case kD => k_is)
      · refine' Z.fn_dfn KX G ?aD ?lD ?cD ?kD (fun _ _ _ _ _ _ us hl => match us, hl with | [_, _, _], _ => rfl)
        (case aD => k_is); (case lD => k_is); (case cD => k_is); (case kD => k_is)
      · refine' Z.fn_dfn KX G ?aD ?lD ?cD ?kD (fun _ _ _ _ _ _ us hl => match us, hl with | [], _ => rfl)
        (case aD => k_is); (case lD => k_is); (case cD => k_is); (case kD => k_is)
      · constructor
        · refine' PySem.W.mg_none_of KX G ?zD
          (case zD => k_is)
        · refine' PySem.W.mg_none_of KX G ?zD
          (case zD => k_is)
        · refine' PySem.W.mg_none_of KX G ?zD
          (case zD => k_is)
        · refine' PySem.W.mg_none_of KX G ?zD
          (case zD => k_is)
        · refine' PySem.W.mg_none_of KX G ?zD
          (case zD => k_is)
        · refine' PySem.W.mg_none_of KX G ?zD
          (case zD => k_is)
        · refine' PySem.W.mg_none_of KX G ?zD
          (case zD => k_is)
        · refine' PySem.W.mg_none_of KX G ?zD
          (case zD => k_is)
        · refine' PySem.W.mg_none_of KX G ?zD
          (case zD => k_is)
        · refine' PySem.W.mg_none_of KX G ?zD
          (case zD => k_is)
      · constructor
        · trivial
      · constructor
        · refine' ⟨_, N.exn_mk KX G ?zg ?zk ?zx ?zb ?zt ?zs ?z1 ?z2 ?z3 ?z4 ?z5 ?z6 ?z7 ?z8⟩
          (case zg => k_is); (case zk => k_is); (case zx => k_exc); (case zb => k_is); (case zt => k_is); (case zs => first | rfl | k_is); (case z1 => k_is); (case z2 => k_is); (case z3 => k_is); (case z4 => k_is); (case z5 => k_is); (case z6 => k_is); (case z7 => k_is); (case z8 => k_is)
        · refine' ⟨_, N.exn_mk KX G ?zg ?zk ?zx ?zb ?zt ?zs ?z1 ?z2 ?z3 ?z4 ?z5 ?z6 ?z7 ?z8, N.exo_mk KX G ?y1 ?y2 ?y3 ?y4 ?yk⟩
          (case zg => k_is); (case zk => k_is); (case zx => k_exc); (case zb => k_is); (case zt => k_is); (case zs => first | rfl | k_is); (case z1 => k_is); (case z2 => k_is); (case z3 => k_is); (case z4 => k_is); (case z5 => k_is); (case z6 => k_is); (case z7 => k_is); (case z8 => k_is)
          (case y1 => k_is); (case y2 => k_is); (case y3 => k_is); (case y4 => k_is); (case yk => first | rfl | k_is)

