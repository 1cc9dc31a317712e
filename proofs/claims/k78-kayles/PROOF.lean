import PyProof.Rows.All
import Wide.All
import OpenK.AllK
import Wide.FinOn
import HandS.ForExc
import HandS.ForMost
import HandS.Wide
import HandS.EndBits
import HandS.Codes
import HandS.Deep
import HandS.TupAny
import HandS.TupMul
import HandS.TupLe
import HandS.Flow
import HandS.Conv
import HandS.Style
import HandS.IsInst
import KE.SortData
import KE.DataEq
import HandS.TupSets
import KE.GoesMore
import HandS.DictComp
import KE.KDictSum
import KE.KTupSum
import KE.DataMinMax
import PyProof.TupleOfSeq
import HandS.SetFor
import HandS.Strs
import HandS.SetIn
import KE.KDictPairs
import PyProof.LongRange
import HandS.Small
import HandS.Text
import HandS.Exc
import HandS.ExcOwn
import HandS.ExcIs
import HandS.WordsExc
import PySem.Challenge.RW_cantmove_k78_whole_kayles
set_option Elab.async false
set_option linter.all false
set_option autoImplicit false
set_option maxRecDepth 100000
set_option maxHeartbeats 4000000
namespace Z
open PySem L2

def Ext (F H : Hp) : Prop := ∀ a o, F a = some o → H a = some o
theorem Ext.refl (F : Hp) : Ext F F := fun _ _ h => h
theorem Ext.trans {F G H : Hp} (a : Ext F G) (b : Ext G H) : Ext F H := fun x o h => b x o (a x o h)
theorem Ext.up {F : Hp} {p : Addr} {o : HO} (h : F p = none) : Ext F (upd F p o) := fun a u e => by
  rw [upd_ne (ne_of_none e h)]
  exact e
theorem Ext.rd {F H : Hp} {a : Addr} {u : HO} (e : Ext F H) (h : Rd F a u) : Rd H a u := by
  rcases h with h | ⟨o, h⟩
  · exact .inl (e a _ h)
  · exact .inr ⟨o, e a _ h⟩
theorem Ext.l {K : PySem.W.Frag} {F H : Hp} {a : Addr} {xs : List V} (e : Ext F H) (h : SqL K F a xs) : SqL K H a xs := h.elim (fun z => .inl (e.rd z)) .inr
theorem Ext.t {K : PySem.W.Frag} {F H : Hp} {a : Addr} {xs : List V} (e : Ext F H) (h : SqT K F a xs) : SqT K H a xs := h.elim (fun z => .inl (e.rd z)) .inr

mutual
theorem dpUp {K : PySem.W.Frag} {F H : Hp} (e : Ext F H) : ∀ (d : PyData) (v : V), Dp K F v d → Dp K H v d
  | .none, _, h => by cases h; exact .non
  | .bool b, _, h => by cases h; exact .bl b
  | .int i, _, h => by cases h; exact .int i
  | .str x, _, h => by cases h; exact .str x
  | .list ds, _, h => by
    cases h with
    | lst hs ha => exact .lst (e.l hs) (dpsUp e ds _ ha)
  | .tuple ds, _, h => by
    cases h with
    | tup hs ha => exact .tup (e.t hs) (dpsUp e ds _ ha)
  | .dict _, _, h => by cases h
theorem dpsUp {K : PySem.W.Frag} {F H : Hp} (e : Ext F H) : ∀ (ds : List PyData) (vs : List V), DpAll K F vs ds → DpAll K H vs ds
  | [], _, h => by cases h; exact .nil
  | d :: ds, _, h => by
    cases h with
    | cons h1 h2 => exact .cons (dpUp e d _ h1) (dpsUp e ds _ h2)
end
theorem dpsLen {K : PySem.W.Frag} {F : Hp} : ∀ {ds : List PyData} {vs : List V}, DpAll K F vs ds → vs.length = ds.length
  | [], _, h => by cases h; rfl
  | d :: ds, _, h => by
    cases h with
    | cons h1 h2 => simp [dpsLen h2]
theorem dpsGet {K : PySem.W.Frag} {F : Hp} : ∀ {ds : List PyData} {vs : List V} {i : Nat} {x : PyData}, DpAll K F vs ds → ds[i]? = some x → ∃ v, vs[i]? = some v ∧ Dp K F v x
  | [], _, i, x, h, e => by simp at e
  | d :: ds, _, 0, x, h, e => by
    cases h with
    | cons h1 h2 => simp at e; subst e; exact ⟨_, rfl, h1⟩
  | d :: ds, _, i + 1, x, h, e => by
    cases h with
    | cons h1 h2 =>
      rw [List.getElem?_cons_succ] at e
      obtain ⟨v, h3, h4⟩ := dpsGet h2 e
      exact ⟨v, by rw [List.getElem?_cons_succ]; exact h3, h4⟩
theorem dpsApp {K : PySem.W.Frag} {F : Hp} : ∀ {ds es : List PyData} {vs ws : List V}, DpAll K F vs ds → DpAll K F ws es → DpAll K F (vs ++ ws) (ds ++ es)
  | [], _, _, _, h, g => by cases h; exact g
  | d :: ds, _, _, _, h, g => by
    cases h with
    | cons h1 h2 => exact .cons h1 (dpsApp h2 g)
theorem dpsTake {K : PySem.W.Frag} {F : Hp} : ∀ {ds : List PyData} {vs : List V} (n : Nat), DpAll K F vs ds → DpAll K F (vs.take n) (ds.take n)
  | _, _, 0, _ => .nil
  | [], _, n + 1, h => by cases h; exact .nil
  | d :: ds, _, n + 1, h => by
    cases h with
    | cons h1 h2 => exact .cons h1 (dpsTake n h2)
theorem dpsDrop {K : PySem.W.Frag} {F : Hp} : ∀ {ds : List PyData} {vs : List V} (n : Nat), DpAll K F vs ds → DpAll K F (vs.drop n) (ds.drop n)
  | _, _, 0, h => h
  | [], _, n + 1, h => by cases h; exact .nil
  | d :: ds, _, n + 1, h => by
    cases h with
    | cons h1 h2 => exact dpsDrop n h2
/-- a thing of its own: what is true of it (the frozen heap, the heap, the value, its addresses) -/
structure Own where
  holds : PySem.W.Frag → Hp → Hp → V → List Addr → Prop
  stay : ∀ {K : PySem.W.Frag} {F F' H H' : Hp} {v : V} {fp : List Addr}, holds K F H v fp → Ext F F' → (∀ a ∈ fp, ∀ o, H a = some o → H' a = some o) → holds K F' H' v fp

inductive IT where
  | un | d (x : PyData) | o (P : Own)
/-- an entry: what it is, its value -/
abbrev En := IT × Option V
def Ent (K : PySem.W.Frag) (F H : Hp) : IT → Option V → List Addr → Prop
  | .un, _, fp => fp = []
  | .d x, v, fp => fp = [] ∧ ∃ u, v = some u ∧ Dp K F u x
  | .o P, v, fp => ∃ u, v = some u ∧ P.holds K F H u fp
abbrev EF := En × List Addr
def fpsOf (L : List EF) : List Addr := L.flatMap (·.2)
structure Held (K : PySem.W.Frag) (F H : Hp) (L : List EF) : Prop where
  ext : Ext F H
  ent : ∀ x ∈ L, Ent K F H x.1.1 x.1.2 x.2
  nd : (fpsOf L).Nodup
  own : ∀ a ∈ fpsOf L, F a = none ∧ ∃ o, H a = some o
def OK (K : PySem.W.Frag) (l : List En) (H : Hp) : Prop := ∃ F L, L.map (·.1) = l ∧ Held K F H L

theorem mem_fps {L : List EF} {a : Addr} : a ∈ fpsOf L ↔ ∃ x ∈ L, a ∈ x.2 := by
  unfold fpsOf
  rw [List.mem_flatMap]
theorem Ent.up {K : PySem.W.Frag} {F F' H H' : Hp} (e : Ext F F') : ∀ {i : IT} {v : Option V} {fp : List Addr}, Ent K F H i v fp → (∀ a ∈ fp, ∀ o, H a = some o → H' a = some o) → Ent K F' H' i v fp
  | .un, _, _, h, _ => h
  | .d x, _, _, ⟨h1, u, h2, h3⟩, _ => ⟨h1, u, h2, dpUp e x u h3⟩
  | .o P, _, _, ⟨u, h1, h2⟩, k => ⟨u, h1, P.stay h2 e k⟩

section
variable {K : PySem.W.Frag} {H H' : Hp} {l l' : List En}

theorem lift_perm : ∀ {l l' : List En} (p : l.Perm l') {L : List EF}, L.map (·.1) = l → ∃ L', L'.map (·.1) = l' ∧ L.Perm L' := by
  intro l l' p
  induction p with
  | nil => intro L h; exact ⟨L, h, .refl _⟩
  | cons x p ih =>
    intro L h
    cases L with
    | nil => simp at h
    | cons y L =>
      simp at h
      obtain ⟨h1, h2⟩ := h
      obtain ⟨L', e, q⟩ := ih h2
      exact ⟨y :: L', by simp [h1, e], q.cons y⟩
  | swap x y l =>
    intro L h
    match L, h with
    | a :: b :: L, h =>
      simp at h
      obtain ⟨h1, h2, h3⟩ := h
      exact ⟨b :: a :: L, by simp [h1, h2, h3], List.Perm.swap b a L⟩
  | trans p q ih1 ih2 =>
    intro L h
    obtain ⟨L1, e1, q1⟩ := ih1 h
    obtain ⟨L2, e2, q2⟩ := ih2 e1
    exact ⟨L2, e2, q1.trans q2⟩
theorem fps_perm {L L' : List EF} (p : L.Perm L') : (fpsOf L).Perm (fpsOf L') := by
  unfold fpsOf
  exact List.Perm.flatMap_right _ p
theorem Held.perm {F : Hp} {L L' : List EF} (p : L.Perm L') (h : Held K F H L) : Held K F H L' :=
  ⟨h.ext, fun x hx => h.ent x (p.mem_iff.mpr hx), (fps_perm p).nodup_iff.mp h.nd, fun a ha => h.own a ((fps_perm p).mem_iff.mpr ha)⟩
theorem OK.perm (p : l.Perm l') (h : OK K l H) : OK K l' H := by
  obtain ⟨F, L, e, g⟩ := h
  obtain ⟨L', e', q⟩ := lift_perm p e
  exact ⟨F, L', e', g.perm q⟩
theorem Held.tail {F : Hp} {x : EF} {L : List EF} (h : Held K F H (x :: L)) : Held K F H L :=
  ⟨h.ext, fun y hy => h.ent y (List.mem_cons_of_mem _ hy), (by
    have := h.nd
    unfold fpsOf at this
    rw [List.flatMap_cons] at this
    exact (List.nodup_append.mp this).2.1), fun a ha => h.own a (by
    unfold fpsOf
    rw [List.flatMap_cons]
    exact List.mem_append_right _ ha)⟩
theorem OK.tail {x : En} (h : OK K (x :: l) H) : OK K l H := by
  obtain ⟨F, L, e, g⟩ := h
  cases L with
  | nil => simp at e
  | cons y L => simp at e; exact ⟨F, L, e.2, g.tail⟩
theorem OK.right {k : List En} (h : OK K (k ++ l) H) : OK K l H := by
  induction k with
  | nil => exact h
  | cons x k ih => exact ih (OK.tail h)
theorem OK.left {k : List En} (h : OK K (l ++ k) H) : OK K l H := OK.right (k := k) (h.perm List.perm_append_comm)
theorem set_perm {α : Type} : ∀ {l : List α} {i : Nat} {y x : α}, l[i]? = some y → (x :: l).Perm (y :: l.set i x)
  | [], i, y, x, h => by simp at h
  | a :: l, 0, y, x, h => by
    simp at h
    subst h
    exact List.Perm.swap _ _ _
  | a :: l, i + 1, y, x, h => by
    have ih := set_perm (l := l) (i := i) (y := y) (x := x) (by simpa using h)
    rw [List.set_cons_succ]
    exact (List.Perm.swap a x l).trans ((ih.cons a).trans (List.Perm.swap y a _))
/-- a new entry in the place of the i-th -/
theorem OK.set {x : En} (i : Nat) (h : OK K (x :: l) H) : OK K (l.set i x) H := by
  cases e : l[i]? with
  | none =>
    rw [List.set_eq_of_length_le (List.getElem?_eq_none_iff.mp e)]
    exact h.tail
  | some y => exact (h.perm (set_perm e)).tail
/-- the i-th entry to the front, another in its place -/
theorem Held.unCons {F : Hp} {L : List EF} {v : Option V} (h : Held K F H L) : Held K F H (((IT.un, v), []) :: L) :=
  ⟨h.ext, fun y hy => by
    rcases List.mem_cons.mp hy with e | e
    · subst e; rfl
    · exact h.ent y e, by unfold fpsOf; rw [List.flatMap_cons]; exact h.nd, fun a ha => h.own a (by unfold fpsOf at ha ⊢; rw [List.flatMap_cons] at ha; exact ha)⟩
theorem OK.un {v : Option V} (h : OK K l H) : OK K ((IT.un, v) :: l) H := by
  obtain ⟨F, L, e, g⟩ := h
  exact ⟨F, ((IT.un, v), []) :: L, by rw [List.map_cons, e], g.unCons⟩
theorem OK.out {i : Nat} {x : IT} {v : Option V} (e : l[i]? = some (x, v)) (h : OK K l H) : OK K ((x, v) :: l.set i (IT.un, v)) H := (h.un (v := v)).perm (set_perm e)
/-- a known datum once more -/
theorem Held.dCons {F : Hp} {L : List EF} {v : V} {x : PyData} (h : Held K F H L) (hd : Dp K F v x) : Held K F H (((IT.d x, some v), []) :: L) :=
  ⟨h.ext, fun y hy => by
    rcases List.mem_cons.mp hy with e | e
    · subst e; exact ⟨rfl, v, rfl, hd⟩
    · exact h.ent y e, by unfold fpsOf; rw [List.flatMap_cons]; exact h.nd, fun a ha => h.own a (by unfold fpsOf at ha ⊢; rw [List.flatMap_cons] at ha; exact ha)⟩
theorem mem_map1 {L : List EF} {y : En} (h : y ∈ L.map (·.1)) : ∃ fp, (y, fp) ∈ L := by
  obtain ⟨z, hz, e⟩ := List.mem_map.mp h
  exact ⟨z.2, by rw [← e]; exact hz⟩
theorem OK.dup {x : PyData} {v : Option V} (m : (IT.d x, v) ∈ l) (h : OK K l H) : ∃ u, v = some u ∧ Dp K H u x ∧ OK K ((IT.d x, some u) :: l) H := by
  obtain ⟨F, L, e, g⟩ := h
  subst e
  obtain ⟨fp, hm⟩ := mem_map1 m
  obtain ⟨_, u, e1, hd⟩ := g.ent _ hm
  exact ⟨u, e1, dpUp g.ext x u hd, F, _, by simp, g.dCons hd⟩
/-- plain values need nothing of the heap -/
def flat : V → PyData → Prop
  | .non, .none => True
  | .bl b, .bool c => b = c
  | .int i, .int j => i = j
  | .str x, .str y => x = y
  | _, _ => False
theorem flatDp {F : Hp} {v : V} {x : PyData} (h : flat v x) : Dp K F v x := by
  cases v <;> cases x <;> first | exact h.elim | skip
  · exact .non
  · have e : _ = _ := h; subst e; exact .bl _
  · have e : _ = _ := h; subst e; exact .int _
  · have e : _ = _ := h; subst e; exact .str _
theorem OK.flat {x : PyData} {v : V} (f : flat v x) (h : OK K l H) : OK K ((IT.d x, some v) :: l) H := by
  obtain ⟨F, L, e, g⟩ := h
  exact ⟨F, _, by simp [e], g.dCons (flatDp f)⟩

def ds2 (ds : List PyData) (vs : List V) : List En := List.zipWith (fun x v => (IT.d x, some v)) ds vs
theorem held_ds {F : Hp} : ∀ {ds : List PyData} {vs : List V} {L : List EF}, ds.length = vs.length → L.map (·.1) = ds2 ds vs ++ l → Held K F H L → DpAll K F vs ds
  | [], [], L, _, _, _ => .nil
  | d :: ds, v :: vs, L, h, e, g => by
    cases L with
    | nil => simp [ds2] at e
    | cons y L =>
      simp only [ds2, List.zipWith_cons_cons, List.map_cons, List.cons_append, List.cons.injEq] at e
      obtain ⟨e1, e2⟩ := e
      have k := g.ent y List.mem_cons_self
      rw [e1] at k
      obtain ⟨_, u, eu, hd⟩ := k
      cases eu
      exact .cons hd (held_ds (by simpa using h) e2 g.tail)
  | [], v :: vs, L, h, _, _ => by simp at h
  | d :: ds, [], L, h, _, _ => by simp at h
theorem Held.grow {F F' : Hp} {L : List EF} (h : Held K F H L) (e1 : Ext F F') (e2 : Ext F' H') (k : ∀ a ∈ fpsOf L, ∀ o, H a = some o → H' a = some o) (n : ∀ a ∈ fpsOf L, F' a = none) : Held K F' H' L :=
  ⟨e2, fun x hx => (h.ent x hx).up e1 fun a ha o ho => k a (mem_fps.mpr ⟨x, hx, ha⟩) o ho, h.nd, fun a ha => ⟨n a ha, by
    obtain ⟨o, ho⟩ := (h.own a ha).2
    exact ⟨o, k a ha o ho⟩⟩⟩
theorem ext_none {F : Hp} {p : Addr} (e : Ext F H) (h : H p = none) : F p = none := by
  cases q : F p with
  | none => rfl
  | some o => rw [e p o q] at h; cases h
/-- a new thing laid, of the frozen part -/
theorem Held.frozen {F : Hp} {L : List EF} {p : Addr} {o : HO} (h : Held K F H L) (hp : H p = none) : Held K (upd F p o) (upd H p o) L := by
  have np : ∀ a ∈ fpsOf L, a ≠ p := fun a ha z => by
    obtain ⟨u, hu⟩ := (h.own a ha).2
    rw [z, hp] at hu
    cases hu
  refine h.grow (Ext.up (ext_none h.ext hp)) (fun a u q => ?_) (fun a ha u hu => ?_) fun a ha => ?_
  · by_cases e : a = p
    · subst e; rw [upd_same] at q ⊢; exact q
    · rw [upd_ne e] at q ⊢; exact h.ext a u q
  · rw [upd_ne (np a ha)]; exact hu
  · rw [upd_ne (np a ha)]; exact (h.own a ha).1
/-- .. of its own -/
theorem Held.fresh {F : Hp} {L : List EF} {p : Addr} {o : HO} (h : Held K F H L) (hp : H p = none) : Held K F (upd H p o) L :=
  h.grow (Ext.refl F) (fun a u q => by
    have e := h.ext a u q
    rw [upd_ne (ne_of_none e hp)]
    exact e) (fun a ha u hu => by rw [upd_ne (ne_of_none hu hp)]; exact hu) fun a ha => (h.own a ha).1
theorem OK.split {k : List En} (h : OK K (k ++ l) H) : ∃ F L1 L2, L1.map (·.1) = k ∧ L2.map (·.1) = l ∧ Held K F H (L1 ++ L2) := by
  obtain ⟨F, L, e, g⟩ := h
  obtain ⟨L1, L2, e1, e2, e3⟩ := List.map_eq_append_iff.mp e
  subst e1
  exact ⟨F, L1, L2, e2, e3, g⟩
theorem Held.right {F : Hp} {L1 L2 : List EF} (h : Held K F H (L1 ++ L2)) : Held K F H L2 := by
  induction L1 with
  | nil => exact h
  | cons x L ih => exact ih h.tail
theorem OK.tup {ds : List PyData} {vs : List V} {p : Addr} (hl : ds.length = vs.length) (h : OK K (ds2 ds vs ++ l) H) (hp : H p = none) : OK K ((IT.d (.tuple ds), some (.ref p)) :: l) (upd H p (.tup vs)) := by
  obtain ⟨F, L1, L2, e1, e2, g⟩ := h.split
  have q : DpAll K F vs ds := held_ds (l := l) hl (by rw [List.map_append, e1, e2]) g
  have q2 : DpAll K (upd F p (.tup vs)) vs ds := dpsUp (Ext.up (ext_none g.ext hp)) ds vs q
  exact ⟨_, _, by simp [e2], (g.right.frozen hp).dCons (.tup (.of upd_same) q2)⟩
/-- a list of its own -/
def OL (ds : List PyData) : Own where
  holds := fun K F H v fp => ∃ p vs, v = .ref p ∧ fp = [p] ∧ H p = some (.lst vs) ∧ DpAll K F vs ds
  stay := fun ⟨p, vs, e1, e2, e3, e4⟩ e k => ⟨p, vs, e1, e2, k p (by rw [e2]; simp) _ e3, dpsUp e _ _ e4⟩
theorem Held.oCons {F : Hp} {L : List EF} {v : V} {P : Own} {fp : List Addr} (h : Held K F H L) (hP : P.holds K F H v fp) (nd : fp.Nodup) (dj : ∀ a ∈ fp, a ∉ fpsOf L) (ow : ∀ a ∈ fp, F a = none ∧ ∃ o, H a = some o) : Held K F H (((IT.o P, some v), fp) :: L) := by
  refine ⟨h.ext, fun y hy => ?_, ?_, fun a ha => ?_⟩
  · rcases List.mem_cons.mp hy with e | e
    · subst e; exact ⟨v, rfl, hP⟩
    · exact h.ent y e
  · unfold fpsOf
    rw [List.flatMap_cons]
    exact List.nodup_append.mpr ⟨nd, h.nd, fun a ha b hb z => dj a ha (by rw [z]; exact hb)⟩
  · unfold fpsOf at ha
    rw [List.flatMap_cons] at ha
    rcases List.mem_append.mp ha with ha | ha
    · exact ow a ha
    · exact h.own a ha
theorem OK.lst {ds : List PyData} {vs : List V} {p : Addr} (hl : ds.length = vs.length) (h : OK K (ds2 ds vs ++ l) H) (hp : H p = none) : OK K ((IT.o (OL ds), some (.ref p)) :: l) (upd H p (.lst vs)) := by
  obtain ⟨F, L1, L2, e1, e2, g⟩ := h.split
  have q : DpAll K F vs ds := held_ds (l := l) hl (by rw [List.map_append, e1, e2]) g
  have g2 := g.right.fresh (o := .lst vs) hp
  refine ⟨F, _, by simp [e2], g2.oCons (v := .ref p) (P := OL ds) (fp := [p]) ⟨p, vs, rfl, rfl, upd_same, q⟩ (by simp) (fun a ha hb => ?_) fun a ha => ?_⟩
  · have e : a = p := by simpa using ha
    subst e
    obtain ⟨u, hu⟩ := (g.right.own a hb).2
    rw [hp] at hu
    cases hu
  · have e : a = p := by simpa using ha
    subst e
    exact ⟨ext_none g.ext hp, _, upd_same⟩
/-- an owned thing at the front is changed at addresses of its own -/
theorem Held.change {F : Hp} {L : List EF} {v : V} {P Q : Own} {fp : List Addr} (h : Held K F H (((IT.o P, some v), fp) :: L)) (hQ : Q.holds K F H' v fp) (k : ∀ a o, a ∉ fp → H a = some o → H' a = some o) (t : ∀ a ∈ fp, ∃ o, H' a = some o) :
    Held K F H' (((IT.o Q, some v), fp) :: L) := by
  have nd := h.nd
  unfold fpsOf at nd
  rw [List.flatMap_cons] at nd
  obtain ⟨n1, n2, n3⟩ := List.nodup_append.mp nd
  have own : ∀ a ∈ fp, F a = none := fun a ha => (h.own a (mem_fps.mpr ⟨_, List.mem_cons_self, ha⟩)).1
  refine (h.tail.grow (Ext.refl F) (fun a u q => k a u (fun z => by rw [own a z] at q; cases q) (h.ext a u q)) (fun a ha u hu => k a u (fun z => n3 a z a ha rfl) hu) fun a ha => (h.tail.own a ha).1).oCons hQ n1 (fun a ha hb => n3 a ha a hb rfl) fun a ha => ⟨own a ha, t a ha⟩
end
end Z

namespace Z
open PySem L2

def Fz (K : PySem.W.Frag) (F : Hp) (l : List En) (H : Hp) : Prop := ∃ L, L.map (·.1) = l ∧ Held K F H L
section
variable {K : PySem.W.Frag} {H H' F : Hp} {l l' : List En}
theorem OK.fz (h : OK K l H) : ∃ F, Fz K F l H := let ⟨F, L, e, g⟩ := h; ⟨F, L, e, g⟩
theorem Fz.ok (h : Fz K F l H) : OK K l H := let ⟨L, e, g⟩ := h; ⟨F, L, e, g⟩
theorem Fz.ext (h : Fz K F l H) : Ext F H := let ⟨_, _, g⟩ := h; g.ext
theorem Fz.perm (p : l.Perm l') (h : Fz K F l H) : Fz K F l' H := by
  obtain ⟨L, e, g⟩ := h
  obtain ⟨L', e', q⟩ := lift_perm p e
  exact ⟨L', e', g.perm q⟩
theorem Fz.tail {x : En} (h : Fz K F (x :: l) H) : Fz K F l H := by
  obtain ⟨L, e, g⟩ := h
  cases L with
  | nil => simp at e
  | cons y L => simp at e; exact ⟨L, e.2, g.tail⟩
theorem Fz.at {x : PyData} {v : Option V} (h : Fz K F l H) (m : (IT.d x, v) ∈ l) : ∃ u, v = some u ∧ Dp K F u x := by
  obtain ⟨L, e, g⟩ := h
  subst e
  obtain ⟨fp, hm⟩ := mem_map1 m
  obtain ⟨_, u, e1, hd⟩ := g.ent _ hm
  exact ⟨u, e1, hd⟩
theorem Fz.own {P : Own} {v : Option V} (h : Fz K F l H) (m : (IT.o P, v) ∈ l) : ∃ u fp, v = some u ∧ P.holds K F H u fp := by
  obtain ⟨L, e, g⟩ := h
  subst e
  obtain ⟨fp, hm⟩ := mem_map1 m
  obtain ⟨u, e1, hd⟩ := g.ent _ hm
  exact ⟨u, fp, e1, hd⟩
theorem Fz.add {x : PyData} {v : V} (h : Fz K F l H) (d : Dp K F v x) : Fz K F ((IT.d x, some v) :: l) H := by
  obtain ⟨L, e, g⟩ := h
  exact ⟨(((IT.d x, some v), []) :: L), by rw [List.map_cons, e], g.dCons d⟩
theorem Fz.un {v : Option V} (h : Fz K F l H) : Fz K F ((IT.un, v) :: l) H := by
  obtain ⟨L, e, g⟩ := h
  exact ⟨(((IT.un, v), []) :: L), by rw [List.map_cons, e], g.unCons⟩
theorem Fz.tup {ds : List PyData} {vs : List V} {p : Addr} (h : Fz K F l H) (q : DpAll K F vs ds) (hp : H p = none) : OK K ((IT.d (.tuple ds), some (.ref p)) :: l) (upd H p (.tup vs)) := by
  obtain ⟨L, e, g⟩ := h
  have q2 : DpAll K (upd F p (.tup vs)) vs ds := dpsUp (Ext.up (ext_none g.ext hp)) ds vs q
  exact ⟨_, _, by rw [List.map_cons, e], (g.frozen hp).dCons (v := .ref p) (.tup (.of upd_same) q2)⟩
/-- a new thing of its own, at one address -/
theorem Fz.newO {P : Own} {o : HO} {p : Addr} (h : Fz K F l H) (hp : H p = none) (hP : P.holds K F (upd H p o) (.ref p) [p]) : OK K ((IT.o P, some (.ref p)) :: l) (upd H p o) := by
  obtain ⟨L, e, g⟩ := h
  refine ⟨F, _, by rw [List.map_cons, e], (g.fresh (o := o) hp).oCons (v := .ref p) (P := P) (fp := [p]) hP (by simp) (fun a ha hb => ?_) fun a ha => ?_⟩
  · have e : a = p := by simpa using ha
    subst e
    obtain ⟨u, hu⟩ := (g.own a hb).2
    rw [hp] at hu
    cases hu
  · have e : a = p := by simpa using ha
    subst e
    exact ⟨ext_none g.ext hp, _, upd_same⟩
theorem Fz.lstO {ds : List PyData} {vs : List V} {p : Addr} (h : Fz K F l H) (q : DpAll K F vs ds) (hp : H p = none) : OK K ((IT.o (OL ds), some (.ref p)) :: l) (upd H p (.lst vs)) :=
  h.newO hp ⟨p, vs, rfl, rfl, upd_same, q⟩
/-- the list at the front is another one -/
theorem Fz.putL {ds ds' : List PyData} {v : V} (h : Fz K F ((IT.o (OL ds), some v) :: l) H) : ∃ p vs, v = .ref p ∧ H p = some (.lst vs) ∧ DpAll K F vs ds ∧
    ∀ ds' vs', DpAll K F vs' ds' → OK K ((IT.o (OL ds'), some v) :: l) (upd H p (.lst vs')) := by
  obtain ⟨L, e, g⟩ := h
  cases L with
  | nil => simp at e
  | cons y L =>
    obtain ⟨y1, fp⟩ := y
    simp at e
    obtain ⟨e1, e2⟩ := e
    subst e1
    obtain ⟨u, e3, p, vs, e4, e5, e6, e7⟩ := g.ent _ List.mem_cons_self
    have e3' : v = u := Option.some.inj e3
    subst e3'
    have e5' : fp = [p] := e5
    subst e5'
    refine ⟨p, vs, e4, e6, e7, fun ds' vs' q => ⟨F, _, ?_, g.change (H' := upd H p (.lst vs')) (Q := OL ds') ⟨p, vs', e4, rfl, upd_same, q⟩ (fun a o ha ho => ?_) fun a ha => ?_⟩⟩
    · rw [List.map_cons, e2]
    · rw [upd_ne (by simpa using ha)]; exact ho
    · have e : a = p := by simpa using ha
      subst e
      exact ⟨_, upd_same⟩
/-- the list at the front is kept for good -/
theorem Fz.freeze {ds : List PyData} {v : V} (h : Fz K F ((IT.o (OL ds), some v) :: l) H) : OK K ((IT.d (.list ds), some v) :: l) H := by
  obtain ⟨L, e, g⟩ := h
  cases L with
  | nil => simp at e
  | cons y L =>
    obtain ⟨y1, fp⟩ := y
    simp at e
    obtain ⟨e1, e2⟩ := e
    subst e1
    obtain ⟨u, e3, p, vs, e4, e5, e6, e7⟩ := g.ent _ List.mem_cons_self
    have e3' : v = u := Option.some.inj e3
    subst e3'
    have e5' : fp = [p] := e5
    subst e5'
    have nF : F p = none := (g.own p (mem_fps.mpr ⟨_, List.mem_cons_self, by simp⟩)).1
    have nd := g.nd
    unfold fpsOf at nd
    rw [List.flatMap_cons] at nd
    obtain ⟨_, _, n3⟩ := List.nodup_append.mp nd
    have g2 : Held K (upd F p (.lst vs)) H L := g.tail.grow (Ext.up nF) (fun a o q => by
      by_cases ea : a = p
      · subst ea; rw [upd_same] at q; cases q; exact e6
      · rw [upd_ne ea] at q; exact g.ext a o q) (fun _ _ _ q => q) fun a ha => by
        rw [upd_ne (fun z => n3 p (by simp) a ha z.symm)]
        exact (g.tail.own a ha).1
    refine ⟨upd F p (.lst vs), (((IT.d (.list ds), some v), []) :: L), by rw [List.map_cons, e2], g2.dCons ?_⟩
    subst e4
    exact .lst (.of upd_same) (dpsUp (Ext.up nF) _ _ e7)
end

inductive SD where
  | un | d (x : PyData) | r (j : Nat)
def itOf : SD → IT
  | .d x => .d x
  | _ => .un
structure S where
  e : List SD
  R : List Own
def ES (e : List SD) (σ : L2.St) : List En := List.zipWith (fun s v => (itOf s, v)) e σ
def RS (R : List Own) (ρ : List V) : List En := List.zipWith (fun P v => (IT.o P, some v)) R ρ
structure Sat (K : PySem.W.Frag) (s : S) (σ : L2.St) (ρ : List V) (T : List En) (H : Hp) : Prop where
  le : s.e.length = σ.length
  lr : s.R.length = ρ.length
  al : ∀ (i j : Nat), s.e[i]? = some (SD.r j) → ∃ v : V, σ[i]? = some (some v) ∧ ρ[j]? = some v
  ok : OK K (T ++ (ES s.e σ ++ RS s.R ρ)) H
/-- a value that is a reference is the one of the store -/
def VR (r : SD) (ρ : List V) (v : V) : Prop := match r with
  | .r j => ρ[j]? = some v
  | _ => True
theorem VR.mono {r : SD} {ρ ρ' : List V} {v : V} (h : VR r ρ v) (p : ρ <+: ρ') : VR r ρ' v := by
  cases r with
  | r j =>
    obtain ⟨m, rfl⟩ := p
    have h' : ρ[j]? = some v := h
    show (ρ ++ m)[j]? = some v
    rw [List.getElem?_append_left (List.getElem?_eq_some_iff.mp h').1]
    exact h'
  | _ => trivial

theorem es_get {e : List SD} {σ : L2.St} {i : Nat} {a : SD} {v : Option V} (h1 : e[i]? = some a) (h2 : σ[i]? = some v) : (ES e σ)[i]? = some (itOf a, v) := by
  unfold ES
  rw [List.getElem?_zipWith, h1, h2]
theorem rs_get {R : List Own} {ρ : List V} {i : Nat} {P : Own} {v : V} (h1 : R[i]? = some P) (h2 : ρ[i]? = some v) : (RS R ρ)[i]? = some (IT.o P, some v) := by
  unfold RS
  rw [List.getElem?_zipWith, h1, h2]
theorem get_of_len {α β : Type} {l : List α} {m : List β} (h : l.length = m.length) {i : Nat} {a : α} (e : l[i]? = some a) : ∃ b, m[i]? = some b := by
  obtain ⟨hi, _⟩ := List.getElem?_eq_some_iff.mp e
  exact ⟨m[i]'(by omega), List.getElem?_eq_getElem (by omega)⟩
section
variable {K : PySem.W.Frag} {s : S} {σ : L2.St} {ρ : List V} {T : List En} {H : Hp}
theorem Sat.tperm {T' : List En} (p : T.Perm T') (h : Sat K s σ ρ T H) : Sat K s σ ρ T' H := ⟨h.le, h.lr, h.al, h.ok.perm (p.append_right _)⟩
theorem Sat.tdrops {T1 : List En} (h : Sat K s σ ρ (T1 ++ T) H) : Sat K s σ ρ T H := ⟨h.le, h.lr, h.al, OK.right (k := T1) (by rw [← List.append_assoc]; exact h.ok)⟩
theorem Sat.slot {i : Nat} {x : PyData} (h : Sat K s σ ρ T H) (e : s.e[i]? = some (SD.d x)) : ∃ v : V, σ[i]? = some (some v) ∧ Sat K s σ ρ ((IT.d x, some v) :: T) H := by
  obtain ⟨ov, h2⟩ := get_of_len h.le e
  have m : (IT.d x, ov) ∈ T ++ (ES s.e σ ++ RS s.R ρ) := List.mem_append_right _ (List.mem_append_left _ (List.mem_of_getElem? (es_get e h2)))
  obtain ⟨u, e1, _, ok⟩ := h.ok.dup m
  subst e1
  exact ⟨u, h2, h.le, h.lr, h.al, ok⟩
/-- a store to a slot, of the value on top -/
theorem Sat.put {i : Nat} {r : SD} {v : V} (hi : i < s.e.length) (vr : VR r ρ v) (h : Sat K s σ ρ ((itOf r, some v) :: T) H) : Sat K ⟨s.e.set i r, s.R⟩ (σ.set i (some v)) ρ T H := by
  have hσ : i < σ.length := by rw [← h.le]; exact hi
  refine ⟨by simp [h.le], h.lr, fun k j e => ?_, ?_⟩
  · by_cases hk : k = i
    · subst hk
      simp only [List.getElem?_set_self hi, Option.some.injEq] at e
      subst e
      exact ⟨v, by rw [List.getElem?_set_self hσ], vr⟩
    · simp only [List.getElem?_set_ne (Ne.symm hk)] at e
      obtain ⟨w, e1, e2⟩ := h.al k j e
      exact ⟨w, by rw [List.getElem?_set_ne (Ne.symm hk)]; exact e1, e2⟩
  · have q : ES (s.e.set i r) (σ.set i (some v)) = (ES s.e σ).set i (itOf r, some v) := by
      unfold ES
      apply List.ext_getElem?
      intro k
      rw [List.getElem?_zipWith]
      by_cases hk : k = i
      · subst hk
        rw [List.getElem?_set_self hi, List.getElem?_set_self hσ, List.getElem?_set_self (by rw [List.length_zipWith]; omega)]
      · rw [List.getElem?_set_ne (Ne.symm hk), List.getElem?_set_ne (Ne.symm hk), List.getElem?_set_ne (Ne.symm hk), List.getElem?_zipWith]
    have hz : i < (ES s.e σ).length := by unfold ES; rw [List.length_zipWith]; omega
    have k : OK K ((T ++ (ES s.e σ ++ RS s.R ρ)).set (T.length + i) (itOf r, some v)) H := OK.set (T.length + i) h.ok
    rw [List.set_append_right _ _ (Nat.le_add_right _ _), Nat.add_sub_cancel_left, List.set_append_left _ _ hz, ← q] at k
    exact k
/-- a new object for the store, from the top -/
theorem Sat.push {P : Own} {v : V} (h : OK K ((IT.o P, some v) :: (T ++ (ES s.e σ ++ RS s.R ρ))) H) (le : s.e.length = σ.length) (lr : s.R.length = ρ.length) (al : ∀ (i j : Nat), s.e[i]? = some (SD.r j) → ∃ v : V, σ[i]? = some (some v) ∧ ρ[j]? = some v) :
    Sat K ⟨s.e, s.R ++ [P]⟩ σ (ρ ++ [v]) T H := by
  refine ⟨le, by simp [lr], fun i j e => ?_, ?_⟩
  · obtain ⟨w, e1, e2⟩ := al i j e
    exact ⟨w, e1, by rw [List.getElem?_append_left (List.getElem?_eq_some_iff.mp e2).1]; exact e2⟩
  · have q : RS (s.R ++ [P]) (ρ ++ [v]) = RS s.R ρ ++ [(IT.o P, some v)] := by
      unfold RS
      rw [List.zipWith_append lr]
      rfl
    rw [show (⟨s.e, s.R ++ [P]⟩ : S).R = s.R ++ [P] from rfl, q]
    refine h.perm ?_
    show ((IT.o P, some v) :: (T ++ (ES s.e σ ++ RS s.R ρ))).Perm (T ++ (ES s.e σ ++ (RS s.R ρ ++ [(IT.o P, some v)])))
    rw [← List.append_assoc, ← List.append_assoc, ← List.append_assoc]
    exact (List.perm_append_singleton _ _).symm
/-- the j-th object of the store to the front -/
theorem rs_set {R : List Own} {ρ : List V} (lr : R.length = ρ.length) {j : Nat} {P : Own} {v : V} (e : ρ[j]? = some v) : RS (R.set j P) ρ = (RS R ρ).set j (IT.o P, some v) := by
  obtain ⟨hj, ej⟩ := List.getElem?_eq_some_iff.mp e
  unfold RS
  apply List.ext_getElem?
  intro k
  rw [List.getElem?_zipWith]
  by_cases hk : k = j
  · subst hk
    rw [List.getElem?_set_self (by omega), e, List.getElem?_set_self (by simp [List.length_zipWith]; omega)]
  · rw [List.getElem?_set_ne (Ne.symm hk), List.getElem?_set_ne (Ne.symm hk), List.getElem?_zipWith]
theorem Sat.obj {j : Nat} {P : Own} (h : Sat K s σ ρ T H) (e : s.R[j]? = some P) : ∃ v, ρ[j]? = some v ∧
    OK K ((IT.o P, some v) :: (T ++ (ES s.e σ ++ (RS s.R ρ).set j (IT.un, some v)))) H ∧
    ∀ (H' : Hp) (Q : Own), OK K ((IT.o Q, some v) :: (T ++ (ES s.e σ ++ (RS s.R ρ).set j (IT.un, some v)))) H' → Sat K ⟨s.e, s.R.set j Q⟩ σ ρ T H' := by
  obtain ⟨v, h2⟩ := get_of_len h.lr e
  have g := rs_get e h2
  have hz : j < (RS s.R ρ).length := (List.getElem?_eq_some_iff.mp g).1
  have n1 : ∀ x : En, (T ++ (ES s.e σ ++ RS s.R ρ)).set (T.length + ((ES s.e σ).length + j)) x = T ++ (ES s.e σ ++ (RS s.R ρ).set j x) := fun x => by
    rw [List.set_append_right _ _ (Nat.le_add_right _ _), Nat.add_sub_cancel_left, List.set_append_right _ _ (Nat.le_add_right _ _), Nat.add_sub_cancel_left]
  refine ⟨v, h2, ?_, fun H' Q ok => ?_⟩
  · rw [← n1]
    refine h.ok.out ?_
    rw [List.getElem?_append_right (Nat.le_add_right _ _), Nat.add_sub_cancel_left, List.getElem?_append_right (Nat.le_add_right _ _), Nat.add_sub_cancel_left]
    exact g
  · refine ⟨h.le, by simpa using h.lr, h.al, ?_⟩
    have k := ok.set (T.length + ((ES s.e σ).length + j))
    rw [← n1, List.set_set, n1, ← rs_set h.lr h2] at k
    exact k
end
end Z

namespace Z
open PySem L2

def tE (K : PySem.W.Frag) (s : S) (r : SD) (s' : S) : TE := fun σ H Q => ∃ T ρ, Sat K s σ ρ T H ∧ ∀ v ρ' H', ρ <+: ρ' → VR r ρ' v → Sat K s' σ ρ' ((itOf r, some v) :: T) H' → Q v H'
def ZE (X : Cx) (ex : Expr) (s : S) (r : SD) (s' : S) : Prop := PE X ex (tE X.K s r s')
def tT (K : PySem.W.Frag) (s : S) (R : Bool → S → Prop) : TT := fun σ H Q => ∃ T ρ, Sat K s σ ρ T H ∧ ∀ b s' ρ' H', R b s' → ρ <+: ρ' → Sat K s' σ ρ' T H' → Q b H'
def ZT (X : Cx) (ex : Expr) (s : S) (R : Bool → S → Prop) : Prop := PT X ex (tT X.K s R)
def ZW (X : Cx) (ex : Expr) (s : S) (R : Bool → S → Prop) : Prop := PW X ex (tT X.K s R)
/-- just this answer -/
def Is (b : Bool) (s : S) : Bool → S → Prop := fun c t => c = b ∧ t = s
def its (rs : List SD) (vs : List V) : List En := List.zipWith (fun r v => (itOf r, some v)) rs vs
def VRs (rs : List SD) (ρ : List V) (vs : List V) : Prop := rs.length = vs.length ∧ ∀ (i : Nat) (r : SD) (v : V), rs[i]? = some r → vs[i]? = some v → VR r ρ v
def tA (K : PySem.W.Frag) (s : S) (rs : List SD) (s' : S) : TA := fun σ H Q => ∃ T ρ, Sat K s σ ρ T H ∧ ∀ vs ρ' H', ρ <+: ρ' → VRs rs ρ' vs → Sat K s' σ ρ' (its rs vs ++ T) H' → Q vs H'
structure Po where
  b : Nat
  nx : S → Prop
  rt : SD → S → Prop
  bk : S → Prop := fun _ => False
  ct : S → Prop := fun _ => False
structure Meets (K : PySem.W.Frag) (P : Po) (ρ : List V) (T : List En) (D : Ends) : Prop where
  nx : ∀ s' σ' ρ' H', P.nx s' → ρ <+: ρ' → Sat K s' σ' ρ' T H' → D.nx σ' H'
  rt : ∀ r s' σ' ρ' H' v, P.rt r s' → ρ <+: ρ' → VR r ρ' v → Sat K s' σ' ρ' ((itOf r, some v) :: T) H' → D.rt v H'
  bk : ∀ s' σ' ρ' H', P.bk s' → ρ <+: ρ' → Sat K s' σ' ρ' T H' → D.bk σ' H'
  ct : ∀ s' σ' ρ' H', P.ct s' → ρ <+: ρ' → Sat K s' σ' ρ' T H' → D.ct σ' H'
def tS (K : PySem.W.Frag) (M : S → Prop) (P : Po) : TS := fun D σ H => ∃ s T ρ, M s ∧ P.b ≤ ρ.length ∧ Sat K s σ ρ T H ∧ Meets K P (ρ.take P.b) T D
def ZSs (X : Cx) (sts : List Stmt) (s : S) (P : Po) : Prop := PSs X sts (tS X.K (fun t => t = s) P)

section
variable {X : Cx} {e a b c : Expr} {es : List Expr} {s s' s1 s2 s3 : S} {r r1 r2 : SD} {rs : List SD} {pos : Pos}
theorem PE.imp {t t' : TE} (h : PE X e t) (i : ∀ σ H Q, t' σ H Q → t σ H Q) : PE X e t' := ⟨fun pins s σ H Q I q => h.run pins s σ H Q I (i σ H Q q)⟩
theorem PT.imp {t t' : TT} (h : PT X e t) (i : ∀ σ H Q, t' σ H Q → t σ H Q) : PT X e t' := ⟨fun pins s σ H Q I q => h.run pins s σ H Q I (i σ H Q q)⟩
theorem PW.imp {t t' : TT} (h : PW X e t) (i : ∀ σ H Q, t' σ H Q → t σ H Q) : PW X e t' := ⟨fun w pins s σ H Q I q => h.run w pins s σ H Q I (i σ H Q q)⟩
theorem PA.imp {t t' : TA} (h : PA X es t) (i : ∀ σ H Q, t' σ H Q → t σ H Q) : PA X es t' := ⟨fun pos pins s σ H Q I q => h.run pos pins s σ H Q I (i σ H Q q)⟩
theorem PS.imp {st : Stmt} {t t' : TS} (h : PS X st t) (i : ∀ D σ H, t' D σ H → t D σ H) : PS X st t' := ⟨fun pins s σ H D I q => h.run pins s σ H D I (i D σ H q)⟩
theorem PSs.imp {st : List Stmt} {t t' : TS} (h : PSs X st t) (i : ∀ D σ H, t' D σ H → t D σ H) : PSs X st t' := ⟨fun pins s σ H D I q => h.run pins s σ H D I (i D σ H q)⟩
theorem pre_refl (ρ : List V) : ρ <+: ρ := List.prefix_rfl
theorem ZE.to (h : ZE X e s r s') (e1 : r = r1) (e2 : s' = s1) : ZE X e s r1 s1 := by subst e1 e2; exact h
theorem ZT.imp {R R' : Bool → S → Prop} (h : ZT X e s R) (i : ∀ b t, R b t → R' b t) : ZT X e s R' :=
  PT.imp h fun σ H Q ⟨T, ρ, g, q⟩ => ⟨T, ρ, g, fun b t ρ' H' hr p g' => q b t ρ' H' (i b t hr) p g'⟩
theorem ZW.imp {R R' : Bool → S → Prop} (h : ZW X e s R) (i : ∀ b t, R b t → R' b t) : ZW X e s R' :=
  PW.imp h fun σ H Q ⟨T, ρ, g, q⟩ => ⟨T, ρ, g, fun b t ρ' H' hr p g' => q b t ρ' H' (i b t hr) p g'⟩
theorem ZW.t {R : Bool → S → Prop} (h : ZW X e s R) : ZT X e s R := PW.pt h

section
variable {K : PySem.W.Frag} {σ : L2.St} {ρ : List V} {T : List En} {H : Hp} {v : V} {x : PyData}
theorem Sat.of (g : Sat K s σ ρ T H) {T' : List En} {H' : Hp} (h : OK K (T' ++ (ES s.e σ ++ RS s.R ρ)) H') : Sat K s σ ρ T' H' := ⟨g.le, g.lr, g.al, h⟩
end

/-- two values in, one out -/
def Bi (K : PySem.W.Frag) (q : R2) (s : S) (a b z : SD) (s' : S) : Prop := ∀ u w T σ ρ H Q, Sat K s σ ρ ((itOf b, some w) :: (itOf a, some u) :: T) H → VR a ρ u → VR b ρ w →
  (∀ v ρ' H', ρ <+: ρ' → VR z ρ' v → Sat K s' σ ρ' ((itOf z, some v) :: T) H' → Q v H') → q u w H Q
variable {z : SD}
theorem bi_run {q : R2} {ra rb : SD} (hq : Bi X.K q s2 ra rb z s3) : ∀ σ H Q, tE X.K s z s3 σ H Q → tOp q (tE X.K s ra s1) (tE X.K s1 rb s2) σ H Q := fun σ H Q ⟨T, ρ, g, k⟩ =>
  ⟨T, ρ, g, fun u ρ1 H1 p1 vr1 g1 => ⟨_, ρ1, g1, fun w ρ2 H2 p2 vr2 g2 => hq u w T σ ρ2 H2 Q g2 (vr1.mono p2) vr2 fun v ρ3 H3 p3 vr3 g3 => k v ρ3 H3 ((p1.trans p2).trans p3) vr3 g3⟩⟩
variable {i j : Int}
variable {x y : PyData} {ra rb : SD}
end
end Z

namespace Z
open PySem L2
section
variable {X : Cx} {e a b c : Expr} {es : List Expr} {s s' s1 s2 s3 : S} {r r1 r2 : SD} {rs : List SD} {pos : Pos} {R : Bool → S → Prop} {k : Bool}

theorem empty_len {α β : Type} {l : List α} {m : List β} (h : l.length = m.length) : l.isEmpty = m.isEmpty := by
  cases l <;> cases m <;> simp at h ⊢
theorem pe_noway {X : Cx} {e : Expr} : PE X e (fun _ _ _ => False) := ⟨fun _ _ _ _ _ _ h => h.elim⟩
/-- how a call of a global name with these arguments is read -/
def Cl (X : Cx) (x : Str) (e : Expr) (es : List Expr) (pos : Pos) : Prop := Gl X x ∧ starEach (e :: es) X.env = (false, eval e X.env) :: starEach es X.env ∧ (backTo pos (starEach es X.env)).any (·.1) = false
theorem vrs1 {ρ : List V} {us : List V} (h : VRs [r] ρ us) : ∃ u, us = [u] ∧ VR r ρ u := by
  obtain ⟨h1, h2⟩ := h
  match us, h1 with
  | [u], _ => exact ⟨u, rfl, h2 0 r u rfl rfl⟩
theorem vrs2 {ρ : List V} {us : List V} (h : VRs [r, r1] ρ us) : ∃ u w, us = [u, w] ∧ VR r ρ u ∧ VR r1 ρ w := by
  obtain ⟨h1, h2⟩ := h
  match us, h1 with
  | [u, w], _ => exact ⟨u, w, rfl, h2 0 r u rfl rfl, h2 1 r1 w rfl rfl⟩
variable {f p : Pos} {n : Nat} {i j : Int} {x y z : PyData} {ds : List PyData}
theorem PO.imp {X : Cx} {e : Option Expr} {t t' : TO} (h : PO X e t) (i : ∀ σ H Q, t' σ H Q → t σ H Q) : PO X e t' := ⟨fun pins s σ H Q I q => h.run pins s σ H Q I (i σ H Q q)⟩
def cut (xs : List PyData) (lo hi : Option Int) : List PyData := (xs.drop (HT.sIx xs.length 0 lo)).take (HT.sIx xs.length xs.length hi - HT.sIx xs.length 0 lo)
theorem dps_cut {K : PySem.W.Frag} {F : Hp} {vs : List V} {lo hi : Option Int} (h : DpAll K F vs ds) : DpAll K F (cutV vs lo hi) (cut ds lo hi) := by
  unfold cutV cut
  rw [dpsLen h]
  exact dpsTake _ (dpsDrop _ h)
variable {lo hi : Option Expr} {l u : Option Int} {p2 : Pos}
end
end Z

namespace Z
open PySem L2

def wkE : List SD → List SD → Prop
  | [], [] => True
  | a :: l, b :: m => (b = a ∨ b = .un) ∧ wkE l m
  | _, _ => False
/-- no reference at n or beyond -/
def low (n : Nat) : List SD → Prop
  | [] => True
  | .r j :: l => j < n ∧ low n l
  | _ :: l => low n l
theorem wkE_len : ∀ {l m : List SD}, wkE l m → m.length = l.length
  | [], [], _ => rfl
  | a :: l, b :: m, h => by simp [wkE_len h.2]
  | [], _ :: _, h => h.elim
  | _ :: _, [], h => h.elim
theorem wkE_get : ∀ {l m : List SD}, wkE l m → ∀ {i : Nat} {b : SD}, m[i]? = some b → ∃ a, l[i]? = some a ∧ (b = a ∨ b = .un)
  | [], [], _, i, b, e => by simp at e
  | a :: l, b :: m, h, 0, c, e => by simp at e; subst e; exact ⟨a, rfl, h.1⟩
  | a :: l, b :: m, h, i + 1, c, e => by
    rw [List.getElem?_cons_succ] at e
    obtain ⟨x, h1, h2⟩ := wkE_get h.2 e
    exact ⟨x, by rw [List.getElem?_cons_succ]; exact h1, h2⟩
  | [], _ :: _, h, _, _, _ => h.elim
  | _ :: _, [], h, _, _, _ => h.elim
theorem low_get {n : Nat} : ∀ {l : List SD}, low n l → ∀ {i j : Nat}, l[i]? = some (SD.r j) → j < n
  | [], _, i, j, e => by simp at e
  | .r k :: l, h, 0, j, e => by simp at e; subst e; exact h.1
  | .un :: l, h, 0, j, e => by simp at e
  | .d x :: l, h, 0, j, e => by simp at e
  | .r k :: l, h, i + 1, j, e => low_get (l := l) h.2 (by simpa using e)
  | .un :: l, h, i + 1, j, e => low_get (l := l) h (by simpa using e)
  | .d x :: l, h, i + 1, j, e => low_get (l := l) h (by simpa using e)
section
variable {K : PySem.W.Frag} {s : S} {σ : L2.St} {ρ : List V} {T : List En} {H : Hp}
theorem ok_es : ∀ {e e' : List SD} {σ : L2.St} {l : List En}, wkE e e' → OK K (ES e σ ++ l) H → OK K (ES e' σ ++ l) H
  | [], [], _, _, _, h => h
  | a :: e, b :: e', [], l, _, h => h
  | a :: e, b :: e', v :: σ, l, w, h => by
    have h1 : OK K (ES e σ ++ ((itOf a, v) :: l)) H := h.perm List.perm_middle.symm
    have h2 : OK K (ES e' σ ++ ((itOf a, v) :: l)) H := ok_es w.2 h1
    have h3 : OK K ((itOf b, v) :: (ES e' σ ++ l)) H := by
      have h4 : OK K ((itOf a, v) :: (ES e' σ ++ l)) H := h2.perm List.perm_middle
      rcases w.1 with z | z
      · rw [z]; exact h4
      · rw [z]; exact h4.tail.un
    exact h3
  | [], _ :: _, _, _, w, _ => w.elim
  | _ :: _, [], _, _, w, _ => w.elim
theorem Sat.trim {e' : List SD} {n : Nat} (g : Sat K s σ ρ T H) (w : wkE s.e e') (lw : low n e') : Sat K ⟨e', s.R.take n⟩ σ (ρ.take n) T H := by
  refine ⟨(wkE_len w).trans g.le, by simp [g.lr], fun i j e => ?_, ?_⟩
  · obtain ⟨a, h1, h2⟩ := wkE_get w e
    rcases h2 with z | z
    · subst z
      obtain ⟨v, e1, e2⟩ := g.al i j h1
      exact ⟨v, e1, by rw [List.getElem?_take_of_lt (low_get lw e)]; exact e2⟩
    · cases z
  · have h1 : OK K (ES e' σ ++ (RS s.R ρ ++ T)) H := by
      refine ok_es w (g.ok.perm ?_)
      exact (List.perm_append_comm).trans (by rw [List.append_assoc])
    have q : RS s.R ρ = RS (s.R.take n) (ρ.take n) ++ RS (s.R.drop n) (ρ.drop n) := by
      unfold RS
      rw [← List.zipWith_append (by simp [g.lr]), List.take_append_drop, List.take_append_drop]
    rw [q] at h1
    have h2 : OK K (RS (s.R.drop n) (ρ.drop n) ++ (T ++ (ES e' σ ++ RS (s.R.take n) (ρ.take n)))) H := by
      refine h1.perm ?_
      have p1 : (ES e' σ ++ (RS (s.R.take n) (ρ.take n) ++ RS (s.R.drop n) (ρ.drop n) ++ T)).Perm ((ES e' σ ++ RS (s.R.take n) (ρ.take n)) ++ (RS (s.R.drop n) (ρ.drop n) ++ T)) := by
        rw [List.append_assoc, List.append_assoc]
      refine p1.trans ?_
      refine (List.perm_append_comm).trans ?_
      rw [List.append_assoc]
    exact OK.right h2
end
theorem ZE.trim {X : Cx} {e : Expr} {s s1 : S} {x : PyData} {e' : List SD} {n : Nat} (h : ZE X e s (.d x) s1) (w : wkE s1.e e') (lw : low n e') (hn : s.R.length ≤ n) : ZE X e s (.d x) ⟨e', s1.R.take n⟩ :=
  PE.imp h fun σ H Q ⟨T, ρ, g, k⟩ => ⟨T, ρ, g, fun v ρ' H' p vr g' => k v (ρ'.take n) H' (by
    obtain ⟨m, rfl⟩ := p
    rw [List.take_append, List.take_of_length_le (by rw [← g.lr]; exact hn)]
    exact List.prefix_append _ _) trivial (g'.trim w lw)⟩
def gone : Own where
  holds := fun _ _ _ _ fp => fp = []
  stay := fun h _ _ => h
/-- a list that has just come, kept for good -/
theorem ZE.frz {X : Cx} {e : Expr} {s s1 : S} {j : Nat} {ds : List PyData} (h : ZE X e s (.r j) s1) (hj : s1.R[j]? = some (OL ds)) : ZE X e s (.d (.list ds)) ⟨s1.e, s1.R.set j gone⟩ :=
  PE.imp h fun σ H Q ⟨T, ρ, g, k⟩ => ⟨T, ρ, g, fun v ρ' H' p vr g' => k v ρ' H' p trivial (by
    obtain ⟨w, e2, ok, back⟩ := g'.obj hj
    have ev : w = v := Option.some.inj (e2.symm.trans vr)
    subst ev
    obtain ⟨F, f⟩ := ok.fz
    have f2 : OK X.K ((IT.d (.list ds), some w) :: (T ++ (ES s1.e σ ++ (RS s1.R ρ').set j (IT.un, some w)))) H' := (OK.perm (List.Perm.swap _ _ _) f.freeze).tail
    have f3 : OK X.K ((IT.o gone, some w) :: (((IT.d (.list ds), some w) :: T) ++ (ES s1.e σ ++ (RS s1.R ρ').set j (IT.un, some w)))) H' := by
      obtain ⟨F2, L, e1, gg⟩ := f2
      have c := gg.oCons (v := w) (P := gone) (fp := []) rfl List.nodup_nil (fun a ha => by cases ha) (fun a ha => by cases ha)
      exact ⟨F2, (((IT.o gone, some w), []) :: L), by rw [List.map_cons, e1]; rfl, c⟩
    exact back2 g' hj e2 f3)⟩
where
  back2 {K : PySem.W.Frag} {s : S} {σ : L2.St} {ρ : List V} {T T2 : List En} {H H' : Hp} {j : Nat} {P Q : Own} {w : V} (g : Sat K s σ ρ T H) (hj : s.R[j]? = some P) (e2 : ρ[j]? = some w)
      (ok : OK K ((IT.o Q, some w) :: (T2 ++ (ES s.e σ ++ (RS s.R ρ).set j (IT.un, some w)))) H') : Sat K ⟨s.e, s.R.set j Q⟩ σ ρ T2 H' := by
    have hz : j < (RS s.R ρ).length := (List.getElem?_eq_some_iff.mp (rs_get hj e2)).1
    refine ⟨g.le, by simpa using g.lr, g.al, ?_⟩
    have k := ok.set (T2.length + ((ES s.e σ).length + j))
    rw [List.set_append_right _ _ (Nat.le_add_right _ _), Nat.add_sub_cancel_left, List.set_append_right _ _ (Nat.le_add_right _ _), Nat.add_sub_cancel_left, List.set_set, ← rs_set g.lr e2] at k
    exact k

section
variable {X : Cx} {e a b c : Expr} {es : List Expr} {st : Stmt} {rest body orelse : List Stmt} {s s' s1 s2 s3 : S} {r r1 r2 : SD} {rs : List SD} {pos : Pos} {R : Bool → S → Prop} {k : Bool} {P : Po} {M : S → Prop}
theorem Meets.mono {K : PySem.W.Frag} {ρ ρ' : List V} {T : List En} {D : Ends} (h : Meets K P ρ T D) (p : ρ <+: ρ') : Meets K P ρ' T D :=
  ⟨fun s' σ' r' H' a q g => h.nx s' σ' r' H' a (p.trans q) g, fun x s' σ' r' H' v a q vr g => h.rt x s' σ' r' H' v a (p.trans q) vr g, fun s' σ' r' H' a q g => h.bk s' σ' r' H' a (p.trans q) g, fun s' σ' r' H' a q g => h.ct s' σ' r' H' a (p.trans q) g⟩
/-- a list of its own grows: xs.append(e) -/
theorem Sat.putL {K : PySem.W.Frag} {σ : L2.St} {ρ : List V} {T : List En} {H : Hp} {j : Nat} {ds : List PyData} (g : Sat K s σ ρ T H) (hj : s.R[j]? = some (OL ds)) :
    ∃ p vs F, ρ[j]? = some (.ref p) ∧ H p = some (.lst vs) ∧ DpAll K F vs ds ∧ (∀ {x v}, (IT.d x, some v) ∈ T → Dp K F v x) ∧ ∀ ds' vs', DpAll K F vs' ds' → Sat K ⟨s.e, s.R.set j (OL ds')⟩ σ ρ T (upd H p (.lst vs')) := by
  obtain ⟨v, e2, ok, back⟩ := g.obj hj
  obtain ⟨F, f⟩ := ok.fz
  obtain ⟨p, vs, e3, h1, h2, h3⟩ := f.putL (ds' := ds)
  subst e3
  refine ⟨p, vs, F, e2, h1, h2, fun {x v} m => ?_, fun ds' vs' q => back _ _ (h3 ds' vs' q)⟩
  obtain ⟨u, z, d⟩ := f.at (x := x) (v := some v) (List.mem_cons_of_mem _ (List.mem_append_left _ m))
  cases z
  exact d
end
end Z

namespace Z
open PySem L2

def Wk (K : PySem.W.Frag) (J : It) (ds : List PyData) (T0 : List En) : Prop := ∀ l H, OK K (T0 ++ l) H →
  (∀ i x, ds[i]? = some x → J.go i H ∧ ∀ v H', J.yld i H v H' → OK K ((IT.d x, some v) :: (T0 ++ l)) H') ∧ J.stop ds.length H
def tI (K : PySem.W.Frag) (s : S) (ds : List PyData) (s1 : S) : TI := fun σ H R => ∃ T ρ, Sat K s σ ρ T H ∧ ∀ J T0 ρ' H', ρ <+: ρ' → Sat K s1 σ ρ' (T0 ++ T) H' → Wk K J ds T0 → R J H'
def ZI (X : Cx) (tg it : Expr) (s : S) (ds : List PyData) (s1 : S) : Prop := PI X tg it (tI X.K s ds s1)
section
variable {X : Cx} {tg e a b : Expr} {es : List Expr} {s s' s1 s2 : S} {ds : List PyData} {pos p : Pos} {i j : Int}
theorem PI.imp {t t' : TI} (h : PI X tg e t) (k : ∀ σ H Q, t' σ H Q → t σ H Q) : PI X tg e t' := ⟨fun pins s σ H Q I q => h.run pins s σ H Q I (k σ H Q q)⟩
def rng (lo : Int) (n : Nat) : List PyData := (List.range n).map fun k => .int (lo + (k : Nat))
theorem rng_get {lo : Int} {n k : Nat} {x : PyData} (h : (rng lo n)[k]? = some x) : k < n ∧ x = .int (lo + (k : Nat)) := by
  unfold rng at h
  rw [List.getElem?_map] at h
  cases q : (List.range n)[k]? with
  | none => rw [q] at h; cases h
  | some m =>
    rw [q] at h
    have hk : k < n := by
      have := (List.getElem?_eq_some_iff.mp q).1
      simpa using this
    rw [List.getElem?_range hk] at q
    cases q
    exact ⟨hk, (Option.some.inj h).symm⟩
theorem rng_len {lo : Int} {n : Nat} : (rng lo n).length = n := by unfold rng; simp
theorem wk_rng {K : PySem.W.Frag} {lo : Int} {n : Nat} : Wk K (Itr lo n) (rng lo n) [] := fun l H ok => by
  refine ⟨fun k x hx => ?_, Nat.le_of_eq rng_len.symm⟩
  obtain ⟨h1, h2⟩ := rng_get hx
  subst h2
  refine ⟨h1, fun v H' ⟨e1, e2⟩ => ?_⟩
  subst e1 e2
  exact OK.flat (show flat (.int _) (.int _) from rfl) ok
/-- but for the slots at vs -/
def offv (vs : List Nat) (σ σ' : L2.St) : Prop := σ'.length = σ.length ∧ ∀ k, k ∉ vs → σ'[k]? = σ[k]?
def tG (K : PySem.W.Frag) (vs : List Nat) (x : PyData) (s s' : S) : TG := fun v σ H Q => ∃ T ρ, Sat K s σ ρ ((IT.d x, some v) :: T) H ∧ ∀ σ', offv vs σ σ' → Sat K s' σ' ρ T H → Q σ' H
def ZG (X : Cx) (tg : Expr) (vs : List Nat) (x : PyData) (s s' : S) : Prop := PG X tg (tG X.K vs x s s')
def tGs (K : PySem.W.Frag) (vs : List Nat) (xs : List PyData) (s s' : S) : TGs := fun us σ H Q => ∃ T ρ, xs.length = us.length ∧ Sat K s σ ρ (ds2 xs us ++ T) H ∧ ∀ σ', offv vs σ σ' → Sat K s' σ' ρ T H → Q σ' H
theorem PG.imp {t t' : TG} (h : PG X tg t) (k : ∀ v σ H Q, t' v σ H Q → t v σ H Q) : PG X tg t' := ⟨fun pins s σ H v u Q I r q => h.run pins s σ H v u Q I r (k v σ H Q q)⟩
theorem PGs.imp {tgs : List Expr} {t t' : TGs} (h : PGs X tgs t) (k : ∀ v σ H Q, t' v σ H Q → t v σ H Q) : PGs X tgs t' := ⟨fun pins s σ H v u Q I r q => h.run pins s σ H v u Q I r (k v σ H Q q)⟩
theorem offv_set {vs : List Nat} {σ : L2.St} {k : Nat} {v : Option V} (h : k ∈ vs) : offv vs σ (σ.set k v) := ⟨by simp, fun m hm => by
  rw [List.getElem?_set_ne]
  rintro rfl
  exact hm h⟩
theorem offv.trans {vs : List Nat} {σ σ' σ2 : L2.St} (h : offv vs σ σ') (h2 : offv vs σ' σ2) : offv vs σ σ2 := ⟨h2.1.trans h.1, fun k hk => (h2.2 k hk).trans (h.2 k hk)⟩
variable {rest body : List Stmt} {P : Po} {M : S → Prop}
end
end Z

namespace Z
open PySem L2

def wipeE (e : List SD) : List Nat → List SD
  | [] => e
  | v :: vs => (wipeE e vs).set v .un
theorem wipeE_len (e : List SD) : ∀ vs : List Nat, (wipeE e vs).length = e.length
  | [] => rfl
  | v :: vs => by unfold wipeE; rw [List.length_set, wipeE_len e vs]
theorem wipeE_get {e : List SD} {i : Nat} {a : SD} : ∀ {vs : List Nat}, (wipeE e vs)[i]? = some a → a = .un ∨ (e[i]? = some a ∧ i ∉ vs)
  | [], h => .inr ⟨h, by simp⟩
  | v :: vs, h => by
    unfold wipeE at h
    by_cases hi : i = v
    · subst hi
      by_cases hv : i < (wipeE e vs).length
      · rw [List.getElem?_set_self hv] at h
        exact .inl (Option.some.inj h).symm
      · rw [List.getElem?_eq_none (by simpa using hv)] at h
        cases h
    · rw [List.getElem?_set_ne (Ne.symm hi)] at h
      rcases wipeE_get h with z | ⟨z1, z2⟩
      · exact .inl z
      · exact .inr ⟨z1, by simp only [List.mem_cons, not_or]; exact ⟨hi, z2⟩⟩
theorem wipe_keep {σ : L2.St} {i : Nat} : ∀ {vs : List Nat}, i ∉ vs → (wipe σ vs)[i]? = σ[i]?
  | [], _ => rfl
  | v :: vs, h => by
    simp only [List.mem_cons, not_or] at h
    unfold wipe
    rw [List.getElem?_set_ne (Ne.symm h.1)]
    exact wipe_keep h.2
theorem wipe_at {σ : L2.St} {i : Nat} (hi : i < σ.length) : ∀ {vs : List Nat}, i ∈ vs → (wipe σ vs)[i]? = some none
  | [], h => by simp at h
  | v :: vs, h => by
    unfold wipe
    by_cases e : i = v
    · subst e
      rw [List.getElem?_set_self (by rw [wipe_length]; exact hi)]
    · rw [List.getElem?_set_ne (Ne.symm e)]
      exact wipe_at hi (by simpa [e] using h)
theorem wipe_off {σ σ' : L2.St} {vs : List Nat} (h : offv vs (wipe σ vs) σ') : wipe σ' vs = wipe σ vs := by
  have hl : σ'.length = σ.length := by rw [h.1, wipe_length]
  apply List.ext_getElem?
  intro i
  by_cases hv : i ∈ vs
  · by_cases hi : i < σ.length
    · rw [wipe_at (by omega) hv, wipe_at hi hv]
    · rw [List.getElem?_eq_none (by rw [wipe_length]; omega), List.getElem?_eq_none (by rw [wipe_length]; omega)]
  · rw [wipe_keep hv, h.2 i hv]
section
variable {K : PySem.W.Frag} {H F : Hp} {T l : List En} {σ : L2.St} {ρ : List V} {s : S}
theorem Fz.es : ∀ {e : List SD} {σ : L2.St} {l : List En}, e.length = σ.length → (∀ (i : Nat) (x : PyData) (v : Option V), e[i]? = some (SD.d x) → σ[i]? = some v → ∃ u, v = some u ∧ Dp K F u x) → Fz K F l H → Fz K F (ES e σ ++ l) H
  | [], _, _, _, _, f => f
  | a :: e, [], _, hl, _, _ => by simp at hl
  | a :: e, v :: σ, l, hl, h, f => by
    have ih := Fz.es (e := e) (σ := σ) (l := l) (by simpa using hl) (fun i x w h1 h2 => h (i + 1) x w (by simpa using h1) (by simpa using h2)) f
    show Fz K F ((itOf a, v) :: (ES e σ ++ l)) H
    cases a with
    | d x =>
      obtain ⟨u, e1, hd⟩ := h 0 x v rfl rfl
      subst e1
      exact ih.add hd
    | un => exact ih.un
    | r j => exact ih.un
theorem es_set {e : List SD} {σ : L2.St} (hl : e.length = σ.length) (i : Nat) (a : SD) (v : Option V) : ES (e.set i a) (σ.set i v) = (ES e σ).set i (itOf a, v) := by
  unfold ES
  apply List.ext_getElem?
  intro k
  rw [List.getElem?_zipWith]
  by_cases hk : k = i
  · subst hk
    by_cases hi : k < e.length
    · rw [List.getElem?_set_self hi, List.getElem?_set_self (by omega), List.getElem?_set_self (by rw [List.length_zipWith]; omega)]
    · rw [List.set_eq_of_length_le (by omega), List.set_eq_of_length_le (by omega), List.set_eq_of_length_le (by rw [List.length_zipWith]; omega), List.getElem?_zipWith]
  · rw [List.getElem?_set_ne (Ne.symm hk), List.getElem?_set_ne (Ne.symm hk), List.getElem?_set_ne (Ne.symm hk), List.getElem?_zipWith]
theorem OK.wipe {e : List SD} {σ : L2.St} (hl : e.length = σ.length) (h : OK K (T ++ (ES e σ ++ l)) H) : ∀ vs : List Nat, OK K (T ++ (ES (wipeE e vs) (L2.wipe σ vs) ++ l)) H
  | [] => h
  | v :: vs => by
    have ih := OK.wipe hl h vs
    unfold wipeE L2.wipe
    rw [es_set (by rw [wipeE_len, wipe_length]; exact hl)]
    by_cases hv : v < (ES (wipeE e vs) (L2.wipe σ vs)).length
    · have k := (ih.un (v := none)).set (T.length + v)
      rw [List.set_append_right _ _ (Nat.le_add_right _ _), Nat.add_sub_cancel_left, List.set_append_left _ _ hv] at k
      exact k
    · rw [List.set_eq_of_length_le (by omega)]
      exact ih
theorem cas {α : Type} (a b c : List α) : (a ++ (b ++ c)).Perm (b ++ (a ++ c)) := by
  rw [← List.append_assoc, ← List.append_assoc]
  exact List.Perm.append_right _ List.perm_append_comm
/-- into the block -/
theorem Sat.blk (g : Sat K s σ ρ T H) (vs : List Nat) : Sat K ⟨wipeE s.e vs, s.R⟩ (L2.wipe σ vs) ρ (ES s.e σ ++ T) H := by
  refine ⟨by rw [wipeE_len, wipe_length]; exact g.le, g.lr, fun i j e => ?_, ?_⟩
  · rcases wipeE_get e with z | ⟨z1, z2⟩
    · cases z
    · obtain ⟨v, e1, e2⟩ := g.al i j z1
      exact ⟨v, by rw [wipe_keep z2]; exact e1, e2⟩
  · obtain ⟨F, f⟩ := g.ok.fz
    have f2 : Fz K F (ES s.e σ ++ (T ++ (ES s.e σ ++ RS s.R ρ))) H := Fz.es g.le (fun i x v h1 h2 => f.at (List.mem_append_right _ (List.mem_append_left _ (List.mem_of_getElem? (es_get h1 h2))))) f
    have ok : OK K ((ES s.e σ ++ T) ++ (ES s.e σ ++ RS s.R ρ)) H := by rw [List.append_assoc]; exact f2.ok
    exact OK.wipe g.le ok vs
/-- out of it -/
theorem Sat.unblk {R : List Own} {ρ' : List V} {e' : List SD} {σ' : L2.St} {A : List En} (g : Sat K s σ ρ T H) {H' : Hp} {T' : List En} (p : ρ <+: ρ') (h : Sat K ⟨e', R⟩ σ' ρ' (A ++ (ES s.e σ ++ T')) H') : Sat K ⟨s.e, R⟩ σ ρ' (A ++ T') H' := by
  refine ⟨g.le, h.lr, fun i j e => ?_, ?_⟩
  · obtain ⟨v, e1, e2⟩ := g.al i j e
    exact ⟨v, e1, VR.mono (r := .r j) e2 p⟩
  · have k : OK K ((A ++ (ES s.e σ ++ T')) ++ (ES e' σ' ++ RS R ρ')) H' := h.ok
    have k2 : OK K (ES e' σ' ++ ((A ++ T') ++ (ES s.e σ ++ RS R ρ'))) H' := by
      refine k.perm ?_
      simp only [List.append_assoc]
      have q1 : (ES s.e σ ++ (T' ++ (ES e' σ' ++ RS R ρ'))).Perm (ES e' σ' ++ (T' ++ (ES s.e σ ++ RS R ρ'))) :=
        (cas _ _ _).trans (((cas (ES s.e σ) (ES e' σ') (RS R ρ')).append_left T').trans (cas _ _ _))
      exact (q1.append_left A).trans (cas _ _ _)
    exact k2.right
end
def ZTs (X : Cx) (ifs : List Expr) (s : S) (R : Bool → S → Prop) : Prop := PTs X ifs (tT X.K s R)
section
variable {X : Cx} {tg e a b elt iter : Expr} {es ifs : List Expr} {s s' s1 s2 : S} {ds : List PyData} {pos p : Pos} {i j : Int}
abbrev bl (X : Cx) (scope : Scope) (z : Shared × Hp × Addr × List (Str × Addr) × List Addr) : Cx := X.blk z.1 z.2.1 scope (compEnvC scope z.2.2.2.1 z.2.2.1 X.env) z.2.2.2.2
theorem lc_run {scope : Scope} {own : List (Str × Nat)} {vs : List Nat} (hvs : own.map (·.2) = vs) (Iv : Nat → List PyData → List Own → Prop) (h0 : Iv 0 [] s1.R)
    (turn : ∀ i x acc R, ds[i]? = some x → Iv i acc R → ∃ t' Rt, (∀ z, ZG (bl X scope z) tg vs x ⟨wipeE s1.e vs, R⟩ t') ∧ (∀ z, ZTs (bl X scope z) ifs t' Rt) ∧ (∀ t2, Rt false t2 → Iv (i + 1) acc t2.R) ∧
      ∀ t2, Rt true t2 → ∃ y t3, (∀ z, ZE (bl X scope z) elt t2 (.d y) t3) ∧ Iv (i + 1) (acc ++ [y]) t3.R) (hsz : ds.length < sizeLine)
    (hi : ZI X tg iter s ds s1) (hN : X.N.Nodup) (hc : X.calm = true) (ok : BlkOk X.N X.env.scope scope own) (hs : ∀ x, foldedSetIterable iter X.env x = pure x) :
    ∃ te, (PE X (.ListComp elt [⟨tg, iter, ifs, 0⟩] scope pos) te ∧ ∀ (i : Nat) (y : Str) (py spos : Pos), X.N[i]? = some y → X.env.scope.names.lookup y = some .local → swapsWith (.ListComp elt [⟨tg, iter, ifs, 0⟩] scope pos) (some (.Name y py)) spos.line X.env = pure true → PS X (.Assign [.Name y py] (.ListComp elt [⟨tg, iter, ifs, 0⟩] scope pos) spos) (tAsg te (gName i))) ∧ ∀ T σ ρ H Q, Sat X.K s σ ρ T H →
      (∀ acc R ρ' D H', Iv ds.length acc R → ρ <+: ρ' → Sat X.K ⟨s1.e, R⟩ σ ρ' ((IT.o (OL acc), some (.ref D)) :: T) H' → Q (.ref D) H') → te σ H Q := by
  subst hvs
  have hg : ∀ (sh : Shared) (H : Hp) (C : Addr) (cl : List (Str × Addr)) (fp : List Addr), PG (X.blk sh H scope (compEnvC scope cl C X.env) fp) tg (fun v σ H Q => ∃ x t t', (∀ z, ZG (bl X scope z) tg (own.map (·.2)) x t t') ∧ tG X.K (own.map (·.2)) x t t' v σ H Q) := fun sh H C cl fp =>
    ⟨fun pins sh' σ H' v u Q I r ⟨x, t, t', m, q⟩ => (m (sh, H, C, cl, fp)).run pins sh' σ H' v u Q I r q⟩
  have ht : ∀ (sh : Shared) (H : Hp) (C : Addr) (cl : List (Str × Addr)) (fp : List Addr), PTs (X.blk sh H scope (compEnvC scope cl C X.env) fp) ifs (fun σ H Q => ∃ t R, (∀ z, ZTs (bl X scope z) ifs t R) ∧ tT X.K t R σ H Q) := fun sh H C cl fp =>
    ⟨fun pins sh' σ H' Q I ⟨t, R, m, q⟩ => (m (sh, H, C, cl, fp)).run pins sh' σ H' Q I q⟩
  have he : ∀ (sh : Shared) (H : Hp) (C : Addr) (cl : List (Str × Addr)) (fp : List Addr), PE (X.blk sh H scope (compEnvC scope cl C X.env) fp) elt (fun σ H Q => ∃ t y t', (∀ z, ZE (bl X scope z) elt t (.d y) t') ∧ tE X.K t (.d y) t' σ H Q) := fun sh H C cl fp =>
    ⟨fun pins sh' σ H' Q I ⟨t, y, t', m, q⟩ => (m (sh, H, C, cl, fp)).run pins sh' σ H' Q I q⟩
  refine ⟨_, ⟨pe_lc hc hN hi ok hg ht he hs, fun i y py spos hy hyl hsw => ps_setLc hc hN hy hyl hsw hi ok hg ht he hs⟩, fun T σ ρ H Q g fin => ?_⟩
  refine ⟨T, ρ, g, fun J T0 ρ1 H1 p1 g1 w D hD => ?_⟩
  -- the block's start
  have gb := g1.blk (own.map (·.2))
  have gD : Sat X.K ⟨wipeE s1.e (own.map (·.2)), s1.R⟩ (wipe σ (own.map (·.2))) ρ1 ((IT.o (OL []), some (.ref D)) :: (ES s1.e σ ++ (T0 ++ T))) (upd H1 D (.lst [])) := by
    obtain ⟨F, f⟩ := gb.ok.fz
    exact gb.of (f.lstO (ds := []) (vs := []) .nil hD)
  refine ⟨fun i m H' => m = ds.length - i ∧ i ≤ ds.length ∧ ∃ acc R ρ', Iv i acc R ∧ acc.length ≤ i ∧ ρ1 <+: ρ' ∧ Sat X.K ⟨wipeE s1.e (own.map (·.2)), R⟩ (wipe σ (own.map (·.2))) ρ' ((IT.o (OL acc), some (.ref D)) :: (ES s1.e σ ++ (T0 ++ T))) H', ⟨_, rfl, Nat.zero_le _, [], s1.R, ρ1, h0, Nat.le_refl _, pre_refl _, gD⟩, ?_⟩
  rintro i m H' ⟨rfl, hi', acc, R, ρ', iv, hacc, p', g'⟩
  have okw : OK X.K (T0 ++ ((IT.o (OL acc), some (.ref D)) :: (ES s1.e σ ++ T) ++ (ES (wipeE s1.e (own.map (·.2))) (wipe σ (own.map (·.2))) ++ RS R ρ'))) H' := by
    refine g'.ok.perm ?_
    show ([(IT.o (OL acc), some (V.ref D))] ++ (ES s1.e σ ++ (T0 ++ T)) ++ (ES (wipeE s1.e (own.map (·.2))) (wipe σ (own.map (·.2))) ++ RS R ρ')).Perm (T0 ++ ([(IT.o (OL acc), some (V.ref D))] ++ (ES s1.e σ ++ T) ++ (ES (wipeE s1.e (own.map (·.2))) (wipe σ (own.map (·.2))) ++ RS R ρ')))
    simp only [List.append_assoc]
    exact ((cas (ES s1.e σ) T0 _).append_left _).trans (cas _ _ _)
  obtain ⟨w1, w2⟩ := w _ H' okw
  by_cases hlt : i < ds.length
  · obtain ⟨go, yl⟩ := w1 i ds[i] (List.getElem?_eq_getElem hlt)
    obtain ⟨t', Rt, hG, hT, hF, hE⟩ := turn i ds[i] acc R (List.getElem?_eq_getElem hlt) iv
    refine .inr ⟨go, fun H3 => ∃ acc R ρ', Iv (i + 1) acc R ∧ acc.length ≤ i + 1 ∧ ρ1 <+: ρ' ∧ Sat X.K ⟨wipeE s1.e (own.map (·.2)), R⟩ (wipe σ (own.map (·.2))) ρ' ((IT.o (OL acc), some (.ref D)) :: (ES s1.e σ ++ (T0 ++ T))) H3,
      fun H3 ⟨a1, a2, a3, a4⟩ => ⟨ds.length - (i + 1), by omega, rfl, hlt, a1, a2, a3, a4⟩, fun v H4 y => ?_⟩
    have okv := yl v H4 y
    have g4 : Sat X.K ⟨wipeE s1.e (own.map (·.2)), R⟩ (wipe σ (own.map (·.2))) ρ' ((IT.d ds[i], some v) :: ((IT.o (OL acc), some (.ref D)) :: (ES s1.e σ ++ (T0 ++ T)))) H4 := by
      refine ⟨g'.le, g'.lr, g'.al, okv.perm (List.Perm.cons _ ?_)⟩
      show (T0 ++ ([(IT.o (OL acc), some (V.ref D))] ++ (ES s1.e σ ++ T) ++ (ES (wipeE s1.e (own.map (·.2))) (wipe σ (own.map (·.2))) ++ RS R ρ'))).Perm ([(IT.o (OL acc), some (V.ref D))] ++ (ES s1.e σ ++ (T0 ++ T)) ++ (ES (wipeE s1.e (own.map (·.2))) (wipe σ (own.map (·.2))) ++ RS R ρ'))
      simp only [List.append_assoc]
      exact (cas _ _ _).trans ((cas T0 (ES s1.e σ) _).append_left _)
    -- the same again with a second copy of the frame, for the way back
    refine ⟨ds[i], _, t', hG, _, ρ', ⟨g4.le, g4.lr, g4.al, g4.ok⟩, fun σ2 o g5 => ⟨wipe_off o, ?_⟩⟩
    have back : ∀ {R2 : List Own} {e2 : List SD} {ρ2 : List V} {acc2 : List PyData} {H2 : Hp}, ρ' <+: ρ2 → Sat X.K ⟨e2, R2⟩ σ2 ρ2 ((IT.o (OL acc2), some (.ref D)) :: (ES s1.e σ ++ (T0 ++ T))) H2 →
        Sat X.K ⟨wipeE s1.e (own.map (·.2)), R2⟩ (wipe σ (own.map (·.2))) ρ2 ((IT.o (OL acc2), some (.ref D)) :: (ES s1.e σ ++ (T0 ++ T))) H2 := fun {R2 e2 ρ2 acc2 H2} p2 g2 => by
      have b := g1.unblk (A := [(IT.o (OL acc2), some (.ref D))]) (p'.trans p2) g2
      have b2 := b.blk (own.map (·.2))
      refine b2.tperm ?_
      exact List.perm_middle
    refine ⟨t', Rt, hT, _, ρ', g5, fun b t2 ρ2 H5 hr p2 g6 => ?_⟩
    cases b with
    | false => exact ⟨acc, t2.R, ρ2, hF t2 hr, by omega, p'.trans p2, back p2 g6⟩
    | true =>
      obtain ⟨yd, t3, hy, iv3⟩ := hE t2 hr
      show ∃ _, _
      refine ⟨t2, yd, t3, hy, _, ρ2, g6, fun u ρ3 H6 p3 _ g7 => ?_⟩
      have g8 : OK X.K ((IT.o (OL acc), some (.ref D)) :: ((IT.d yd, some u) :: (ES s1.e σ ++ (T0 ++ T)) ++ (ES t3.e σ2 ++ RS t3.R ρ3))) H6 := g7.ok.perm (List.Perm.swap _ _ _)
      obtain ⟨F, f⟩ := g8.fz
      obtain ⟨pD, vs, e3, h1, h2, h3⟩ := f.putL (ds' := acc)
      cases e3
      obtain ⟨u', e4, hu⟩ := f.at (x := yd) (v := some u) (List.mem_cons_of_mem _ List.mem_cons_self)
      cases e4
      refine ⟨vs, h1, by rw [dpsLen h2]; omega, acc ++ [yd], t3.R, ρ3, iv3, by rw [List.length_append]; exact Nat.succ_le_succ hacc, (p'.trans p2).trans p3, back (e2 := t3.e) (p2.trans p3) ?_⟩
      have k := h3 (acc ++ [yd]) (vs ++ [u]) (dpsApp h2 (.cons hu .nil))
      exact ⟨g7.le, g7.lr, g7.al, ((k.perm (List.Perm.swap _ _ _)).tail)⟩
  · have e : i = ds.length := by omega
    subst e
    refine .inl ⟨w2, fin acc R ρ' D H' iv (p1.trans p') ?_⟩
    have b := g1.unblk (A := [(IT.o (OL acc), some (.ref D))]) p' g'
    have b2 : Sat X.K ⟨s1.e, R⟩ σ ρ' ((IT.o (OL acc), some (.ref D)) :: (T0 ++ T)) H' := b
    have b3 : Sat X.K ⟨s1.e, R⟩ σ ρ' (T0 ++ ((IT.o (OL acc), some (.ref D)) :: T)) H' := b2.tperm List.perm_middle.symm
    exact b3.tdrops
end

def ie (ds : List IT) (vs : List V) : List En := List.zipWith (fun i v => (i, some v)) ds vs
def sl : List IT → Nat → List SD
  | [], _ => []
  | .o _ :: r, n => .r n :: sl r (n + 1)
  | .d x :: r, n => .d x :: sl r n
  | .un :: r, n => .un :: sl r n
def objs : List IT → List Own
  | [] => []
  | .o P :: r => P :: objs r
  | _ :: r => objs r
def vals : List IT → List V → List V
  | .o _ :: r, v :: vs => v :: vals r vs
  | _ :: r, _ :: vs => vals r vs
  | _, _ => []
def back : List IT → List Own → List IT
  | [], _ => []
  | .o _ :: r, P :: Os => .o P :: back r Os
  | .o _ :: r, [] => .un :: back r []
  | _ :: r, Os => .un :: back r Os
/-- a def's promise: what is asked of the arguments; result and objects behind it -/
def spZ (K : PySem.W.Frag) (Pre : List IT → Prop) (Rel : List IT → IT → List Own → Prop) : Sp := fun vs H Q _ => ∃ ds T, Pre ds ∧ ds.length = vs.length ∧ OK K (ie ds vs ++ T) H ∧
  ∀ z Os v H', Rel ds z Os → OK K ((z, some v) :: (ie (back ds Os) vs ++ T)) H' → Q v H'
section
variable {K : PySem.W.Frag} {H : Hp}
theorem vals_len : ∀ {ds : List IT} {vs : List V}, ds.length = vs.length → (vals ds vs).length = (objs ds).length
  | [], [], _ => rfl
  | .o P :: r, v :: vs, h => by simp [vals, objs, vals_len (ds := r) (vs := vs) (by simpa using h)]
  | .d x :: r, v :: vs, h => by simp [vals, objs, vals_len (ds := r) (vs := vs) (by simpa using h)]
  | .un :: r, v :: vs, h => by simp [vals, objs, vals_len (ds := r) (vs := vs) (by simpa using h)]
  | [], _ :: _, h => by simp at h
  | _ :: _, [], h => by simp at h
theorem sl_len : ∀ {ds : List IT} {n : Nat}, (sl ds n).length = ds.length
  | [], _ => rfl
  | .o P :: r, n => by simp [sl, sl_len (ds := r)]
  | .d x :: r, n => by simp [sl, sl_len (ds := r)]
  | .un :: r, n => by simp [sl, sl_len (ds := r)]
theorem enter : ∀ {ds : List IT} {vs : List V} {n : Nat} {T : List En}, ds.length = vs.length → OK K (ie ds vs ++ T) H → OK K (T ++ (ES (sl ds n) (vs.map some) ++ RS (objs ds) (vals ds vs))) H
  | [], [], n, T, _, h => by
    show OK K (T ++ []) H
    rw [List.append_nil]
    exact h
  | .o P :: r, v :: vs, n, T, hl, h => by
    have h1 : OK K (ie r vs ++ ((IT.o P, some v) :: T)) H := OK.perm List.perm_middle.symm h
    have h2 := enter (ds := r) (vs := vs) (n := n + 1) (T := (IT.o P, some v) :: T) (by simpa using hl) h1
    have h3 : OK K ((IT.un, some v) :: ((IT.o P, some v) :: (T ++ (ES (sl r (n + 1)) (vs.map some) ++ RS (objs r) (vals r vs))))) H := OK.un h2
    refine h3.perm ?_
    show ([(IT.un, some v)] ++ ([(IT.o P, some v)] ++ (T ++ (ES (sl r (n + 1)) (vs.map some) ++ RS (objs r) (vals r vs))))).Perm (T ++ ([(IT.un, some v)] ++ ES (sl r (n + 1)) (vs.map some) ++ ([(IT.o P, some v)] ++ RS (objs r) (vals r vs))))
    simp only [List.append_assoc]
    refine ((((cas _ _ _).append_left _).trans (cas _ _ _)).trans (List.Perm.append_left _ ?_))
    exact (cas _ _ _).append_left _
  | .d x :: r, v :: vs, n, T, hl, h => by
    have h1 : OK K (ie r vs ++ ((IT.d x, some v) :: T)) H := OK.perm List.perm_middle.symm h
    have h2 := enter (ds := r) (vs := vs) (n := n) (T := (IT.d x, some v) :: T) (by simpa using hl) h1
    exact OK.perm List.perm_middle.symm h2
  | .un :: r, v :: vs, n, T, hl, h => by
    have h1 : OK K (ie r vs ++ ((IT.un, some v) :: T)) H := OK.perm List.perm_middle.symm h
    have h2 := enter (ds := r) (vs := vs) (n := n) (T := (IT.un, some v) :: T) (by simpa using hl) h1
    exact OK.perm List.perm_middle.symm h2
  | [], _ :: _, _, _, h, _ => by simp at h
  | _ :: _, [], _, _, h, _ => by simp at h
theorem leave : ∀ {ds : List IT} {vs : List V} {R : List Own} {T : List En}, ds.length = vs.length → R.length = (objs ds).length → OK K (T ++ RS R (vals ds vs)) H → OK K (ie (back ds R) vs ++ T) H
  | [], [], R, T, _, hr, h => by
    cases R with
    | nil => rw [show T ++ RS [] (vals [] []) = T from List.append_nil T] at h; exact h
    | cons => simp [objs] at hr
  | .o P :: r, v :: vs, P' :: R, T, hl, hr, h => by
    have h1 : OK K (((IT.o P', some v) :: T) ++ RS R (vals r vs)) H := by
      refine OK.perm ?_ h
      exact List.perm_middle
    have h2 := leave (ds := r) (vs := vs) (R := R) (T := (IT.o P', some v) :: T) (by simpa using hl) (by simpa [objs] using hr) h1
    exact OK.perm List.perm_middle h2
  | .o P :: r, v :: vs, [], T, hl, hr, h => by simp [objs] at hr
  | .d x :: r, v :: vs, R, T, hl, hr, h => by
    have h2 := leave (ds := r) (vs := vs) (R := R) (T := T) (by simpa using hl) (by simpa [objs] using hr) h
    cases R <;> exact h2.un
  | .un :: r, v :: vs, R, T, hl, hr, h => by
    have h2 := leave (ds := r) (vs := vs) (R := R) (T := T) (by simpa using hl) (by simpa [objs] using hr) h
    cases R <;> exact h2.un
  | [], _ :: _, _, _, h, _, _ => by simp at h
  | _ :: _, [], _, _, h, _, _ => by simp at h
theorem sl_ref : ∀ {ds : List IT} {vs : List V} {n i j : Nat}, ds.length = vs.length → (sl ds n)[i]? = some (SD.r j) → n ≤ j ∧ ∃ v, vs[i]? = some v ∧ (vals ds vs)[j - n]? = some v
  | [], [], _, i, _, _, e => by simp [sl] at e
  | .o P :: r, v :: vs, n, 0, j, hl, e => by
    simp [sl] at e
    subst e
    exact ⟨Nat.le_refl _, v, rfl, by simp [vals]⟩
  | .o P :: r, v :: vs, n, i + 1, j, hl, e => by
    obtain ⟨h0, w, h1, h2⟩ := sl_ref (ds := r) (vs := vs) (n := n + 1) (i := i) (j := j) (by simpa using hl) (by simpa [sl] using e)
    refine ⟨by omega, w, by simpa using h1, ?_⟩
    rw [show j - n = (j - (n + 1)) + 1 by omega]
    simpa [vals] using h2
  | .d x :: r, v :: vs, n, 0, j, hl, e => by simp [sl] at e
  | .d x :: r, v :: vs, n, i + 1, j, hl, e => by
    obtain ⟨h0, w, h1, h2⟩ := sl_ref (ds := r) (vs := vs) (n := n) (i := i) (j := j) (by simpa using hl) (by simpa [sl] using e)
    exact ⟨h0, w, by simpa using h1, by simpa [vals] using h2⟩
  | .un :: r, v :: vs, n, 0, j, hl, e => by simp [sl] at e
  | .un :: r, v :: vs, n, i + 1, j, hl, e => by
    obtain ⟨h0, w, h1, h2⟩ := sl_ref (ds := r) (vs := vs) (n := n) (i := i) (j := j) (by simpa using hl) (by simpa [sl] using e)
    exact ⟨h0, w, by simpa using h1, by simpa [vals] using h2⟩
  | [], _ :: _, _, _, _, h, _ => by simp at h
  | _ :: _, [], _, _, _, h, _ => by simp at h
theorem es_un : ∀ (e : List SD) (vs : List V) (n : Nat) {T : List En}, e.length = vs.length → OK K (T ++ ES e (vs.map some)) H → OK K (T ++ ES (e ++ List.replicate n .un) (vs.map some ++ List.replicate n none)) H := fun e vs n T hl h => by
  have q : ES (e ++ List.replicate n .un) (vs.map some ++ List.replicate n none) = ES e (vs.map some) ++ List.replicate n (IT.un, none) := by
    unfold ES
    rw [List.zipWith_append (by rw [List.length_map]; exact hl)]
    congr 1
    exact List.zipWith_replicate' ..
  rw [q]
  induction n with
  | zero => rw [List.replicate_zero, List.append_nil]; exact h
  | succ n ih =>
    have k := OK.un (v := none) (ih (by unfold ES; rw [List.zipWith_append (by rw [List.length_map]; exact hl)]; congr 1; exact List.zipWith_replicate' ..))
    refine k.perm ?_
    rw [List.replicate_succ, ← List.append_assoc, ← List.append_assoc]
    exact List.perm_middle.symm
/-- what a return hands back -/
def retOK (b : Nat) (ds : List IT) (Rel : List IT → IT → List Own → Prop) (r : SD) (t : S) : Prop := match r with
  | .d x => Rel ds (.d x) (t.R.take b)
  | .r j => b ≤ j ∧ ((∃ P, t.R[j]? = some P ∧ Rel ds (.o P) (t.R.take b)) ∨ ∃ es, t.R[j]? = some (OL es) ∧ Rel ds (.d (.list es)) (t.R.take b))
  | .un => False
def inSt (ds : List IT) (n : Nat) : S := ⟨sl ds 0 ++ List.replicate n .un, objs ds⟩
def inPo (ds : List IT) (Rel : List IT → IT → List Own → Prop) : Po := { b := (objs ds).length, nx := fun t => Rel ds (.d .none) (t.R.take (objs ds).length), rt := retOK (objs ds).length ds Rel }
theorem take_set {α : Type} {l : List α} {b j : Nat} {x : α} (h : b ≤ j) : (l.set j x).take b = l.take b := by
  apply List.ext_getElem?
  intro i
  by_cases hi : i < b
  · rw [List.getElem?_take_of_lt hi, List.getElem?_take_of_lt hi, List.getElem?_set_ne (by omega)]
  · rw [List.getElem?_eq_none (by rw [List.length_take]; omega), List.getElem?_eq_none (by rw [List.length_take]; omega)]
theorem run_body {Rel : List IT → IT → List Own → Prop} {ds : List IT} {T : List En} {vs : List V} {Q : VK} {N : List Str} {X : Cx} {body : List Stmt} (hK : X.K = K) (hl : ds.length = vs.length) (ok : OK K (ie ds vs ++ T) H) (q : ∀ z Os v H', Rel ds z Os → OK K ((z, some v) :: (ie (back ds Os) vs ++ T)) H' → Q v H')
    (h : ZSs X body (inSt ds (N.length - vs.length)) (inPo ds Rel)) : ∃ t, PSs X body t ∧ t { nx := fun _ H' => Q .non H', rt := Q } (start N vs) H := by
  refine ⟨_, h, inSt ds (N.length - vs.length), T, vals ds vs, rfl, Nat.le_of_eq (vals_len hl).symm, ?_, ?_⟩
  · refine ⟨?_, (vals_len hl).symm, fun i j e => ?_, ?_⟩
    · show (sl ds 0 ++ List.replicate _ _).length = (vs.map some ++ List.replicate _ none).length
      simp [sl_len, hl]
    · have e' : (sl ds 0 ++ List.replicate (N.length - vs.length) SD.un)[i]? = some (SD.r j) := e
      by_cases hi : i < (sl ds 0).length
      · rw [List.getElem?_append_left hi] at e'
        obtain ⟨_, v, h1, h2⟩ := sl_ref hl e'
        refine ⟨v, ?_, by simpa using h2⟩
        show (vs.map some ++ _)[i]? = _
        rw [List.getElem?_append_left (by rw [List.length_map, ← hl, ← sl_len (n := 0)]; exact hi), List.getElem?_map, h1]
        rfl
      · rw [List.getElem?_append_right (by omega)] at e'
        rw [List.getElem?_replicate] at e'
        split at e' <;> cases e'
    · rw [hK]
      have k := enter (n := 0) hl ok
      have k2 : OK K ((RS (objs ds) (vals ds vs) ++ T) ++ ES (sl ds 0) (vs.map some)) H := by
        refine k.perm ?_
        rw [← List.append_assoc]
        refine (List.perm_append_comm).trans ?_
        rw [← List.append_assoc]
      have k3 := es_un (sl ds 0) vs (N.length - vs.length) (T := RS (objs ds) (vals ds vs) ++ T) (by rw [sl_len]; exact hl) k2
      refine k3.perm ?_
      show (RS (objs ds) (vals ds vs) ++ T ++ ES (sl ds 0 ++ List.replicate (N.length - vs.length) SD.un) (vs.map some ++ List.replicate (N.length - vs.length) none)).Perm (T ++ (ES (sl ds 0 ++ List.replicate (N.length - vs.length) SD.un) (vs.map some ++ List.replicate (N.length - vs.length) none) ++ RS (objs ds) (vals ds vs)))
      rw [List.append_assoc]
      refine (List.perm_append_comm).trans ?_
      rw [List.append_assoc]
  · have lv := vals_len (ds := ds) (vs := vs) hl
    have tk : (vals ds vs).take (inPo ds Rel).b = vals ds vs := List.take_of_length_le (by rw [lv]; exact Nat.le_refl _)
    rw [tk, hK]
    -- out of the end's state: the objects of the arguments
    have out : ∀ {s' : S} {σ' : L2.St} {ρ' : List V} {H' : Hp} {A : List En}, vals ds vs <+: ρ' → Sat K s' σ' ρ' (A ++ T) H' → OK K (A ++ (ie (back ds (s'.R.take (objs ds).length)) vs ++ T)) H' := fun {s' σ' ρ' H' A} p g => by
      obtain ⟨m, rfl⟩ := p
      have lr := g.lr
      rw [List.length_append] at lr
      have q1 : RS s'.R (vals ds vs ++ m) = RS (s'.R.take (objs ds).length) (vals ds vs) ++ RS (s'.R.drop (objs ds).length) m := by
        unfold RS
        rw [← List.zipWith_append (by rw [List.length_take, lv]; omega), List.take_append_drop]
      have k := g.ok
      rw [q1] at k
      have k2 : OK K ((ES s'.e σ' ++ RS (s'.R.drop (objs ds).length) m) ++ ((A ++ T) ++ RS (s'.R.take (objs ds).length) (vals ds vs))) H' := by
        refine k.perm ?_
        simp only [List.append_assoc]
        refine ((cas T _ _).append_left A).trans ?_
        refine (cas A _ _).trans ?_
        refine List.Perm.append_left _ ?_
        refine ((List.Perm.append_left T (List.perm_append_comm)).append_left A).trans ?_
        refine ((cas T _ _).append_left A).trans ?_
        exact cas A _ _
      have k3 := leave hl (by rw [List.length_take]; omega) k2.right
      exact k3.perm (cas _ _ _)
    refine ⟨fun s' σ' ρ' H' a p g => ?_, fun r s' σ' ρ' H' v a p vr g => ?_, fun _ _ _ _ z => z.elim, fun _ _ _ _ z => z.elim⟩
    · exact q _ _ .non H' a (OK.flat (show flat .non .none from trivial) (out (A := []) p g))
    · cases r with
      | un => exact a.elim
      | d x => exact q _ _ v H' a (out (A := [(IT.d x, some v)]) p g)
      | r j =>
        obtain ⟨hb, a⟩ := a
        rcases a with ⟨P, hP, a⟩ | ⟨es, hP, a⟩
        · obtain ⟨w, e2, ok2, _⟩ := g.obj hP
          have ev : w = v := Option.some.inj (e2.symm.trans vr)
          subst ev
          -- the object's own place is given up
          have g3 : Sat K ⟨s'.e, s'.R.set j gone⟩ σ' ρ' ([(IT.o P, some w)] ++ T) H' := by
            refine ZE.frz.back2 (P := P) (T2 := [(IT.o P, some w)] ++ T) g hP e2 ?_
            have k := (OK.perm (List.Perm.swap _ _ _) ok2).tail
            obtain ⟨F2, L, e1, gg⟩ := k
            have c := gg.oCons (v := w) (P := gone) (fp := []) rfl List.nodup_nil (fun a ha => by cases ha) (fun a ha => by cases ha)
            exact ⟨F2, (((IT.o gone, some w), []) :: L), by rw [List.map_cons, e1]; rfl, c⟩
          refine q _ _ w H' a ?_
          have k := out p g3
          rw [show (⟨s'.e, s'.R.set j gone⟩ : S).R = s'.R.set j gone from rfl, take_set hb] at k
          exact k
        · obtain ⟨w, e2, ok2, _⟩ := g.obj hP
          have ev : w = v := Option.some.inj (e2.symm.trans vr)
          subst ev
          obtain ⟨F, f⟩ := ok2.fz
          have g3 : Sat K ⟨s'.e, s'.R.set j gone⟩ σ' ρ' ([(IT.d (.list es), some w)] ++ T) H' := by
            refine ZE.frz.back2 (P := OL es) (T2 := [(IT.d (.list es), some w)] ++ T) g hP e2 ?_
            have k := (OK.perm (List.Perm.swap _ _ _) f.freeze).tail
            obtain ⟨F2, L, e1, gg⟩ := k
            have c := gg.oCons (v := w) (P := gone) (fp := []) rfl List.nodup_nil (fun a ha => by cases ha) (fun a ha => by cases ha)
            exact ⟨F2, (((IT.o gone, some w), []) :: L), by rw [List.map_cons, e1]; rfl, c⟩
          refine q _ _ w H' a ?_
          have k := out p g3
          rw [show (⟨s'.e, s'.R.set j gone⟩ : S).R = s'.R.set j gone from rfl, take_set hb] at k
          exact k
end
end Z

namespace Z
open PySem L2 PyProof.Rows

abbrev Pre := List IT → Prop
abbrev Rel := List IT → IT → List Own → Prop
/-- a def that may be called by its name and raises nothing -/
structure Cal (P : Program) (w : World) (K : PySem.W.Frag) (mg : Str → Option Value) (base : Heap) (k : Nat) (x : Str) (pre : Pre) (rel : Rel) : Prop where
  ex : ∃ (f : Addr) (fd : FuncData) (ps : List Str), FnOk P w K mg base CX0 k f fd ps (spZ K pre rel) ∧ mg x = some (.ref f) ∧ PySem.W.keepIn K (.ref f) = true ∧ Binds K fd ps []
/-- the text of a def, by its name: what the top has left -/
structure Dfn (K : PySem.W.Frag) (mg : Str → Option Value) (x : Str) (st : Stmt) (ps : List Str) : Prop where
  ex : ∃ (f : Addr) (fd : FuncData), Fun K x x st f fd ∧ mg x = some (.ref f) ∧ Binds K fd ps []
section
variable {P : Program} {w : World} {K : PySem.W.Frag} {mg : Str → Option Value} {base : Heap} {x : Str} {st : Stmt} {ps N : List Str} {k : Nat} {pre : Pre} {rel : Rel}
theorem Cal.mono {j : Nat} (c : Cal P w K mg base k x pre rel) (h : k ≤ j) : Cal P w K mg base j x pre rel := let ⟨f, fd, ps, F, r⟩ := c.ex; ⟨f, fd, ps, F.mono h, r⟩
theorem Cal.imp {pre' : Pre} {rel' : Rel} (c : Cal P w K mg base k x pre rel) (h1 : ∀ ds, pre' ds → pre ds) (h2 : ∀ ds z Os, pre' ds → rel ds z Os → rel' ds z Os) : Cal P w K mg base k x pre' rel' :=
  let ⟨f, fd, ps, F, r⟩ := c.ex; ⟨f, fd, ps, F.imp fun vs H Q E ⟨ds, T, a, b, c, d⟩ => ⟨ds, T, h1 _ a, b, c, fun z Os v H' q => d z Os v H' (h2 _ _ _ a q)⟩, r⟩
end
section
variable {X : Cx} {e : Expr} {es : List Expr} {s s1 s2 : S} {rs : List SD} {pos p : Pos} {x : Str} {k j : Nat} {pre : Pre} {rel : Rel} {ds as bs : List PyData} {zd : PyData}
end
end Z

namespace Z
open PySem L2 PyProof.Rows

section
variable {A : Type} (args : A → List IT) (ask : A → Prop) (res : A → IT) (outs : A → List Own)
def preOf : Pre := fun ds => ∃ x, ask x ∧ ds = args x
def relOf : Rel := fun ds z Os => ∀ x, ask x → ds = args x → z = res x ∧ Os = outs x
end
/-- what a return is to be -/
def retS (b : Nat) (z0 : IT) (O0 : List Own) (r : SD) (t : S) : Prop := match r with
  | .d x => z0 = .d x ∧ t.R.take b = O0
  | .r j => b ≤ j ∧ ((∃ P, t.R[j]? = some P ∧ z0 = .o P) ∨ ∃ es, t.R[j]? = some (OL es) ∧ z0 = .d (.list es)) ∧ t.R.take b = O0
  | .un => False
def poS (b : Nat) (z0 : IT) (O0 : List Own) : Po := { b := b, nx := fun t => z0 = .d .none ∧ t.R.take b = O0, rt := retS b z0 O0 }
theorem PSs.wk {X : Cx} {sts : List Stmt} {s : S} {P Q : Po} (h : ZSs X sts s P) (hb : Q.b = P.b) (h1 : ∀ t, P.nx t → Q.nx t) (h2 : ∀ r t, P.rt r t → Q.rt r t) (h3 : ∀ t, P.bk t → Q.bk t) (h4 : ∀ t, P.ct t → Q.ct t) : ZSs X sts s Q :=
  PSs.imp h fun D σ H ⟨t, T, ρ, e1, b, g, q⟩ => ⟨t, T, ρ, e1, by rw [← hb]; exact b, g, by
    rw [hb] at q
    exact ⟨fun s' σ' ρ' H' a => q.nx s' σ' ρ' H' (h1 _ a), fun r s' σ' ρ' H' v a => q.rt r s' σ' ρ' H' v (h2 _ _ a), fun s' σ' ρ' H' a => q.bk s' σ' ρ' H' (h3 _ a), fun s' σ' ρ' H' a => q.ct s' σ' ρ' H' (h4 _ a)⟩⟩
section
variable {P : Program} {w : World} {K : PySem.W.Frag} {mg : Str → Option Value} {base : Heap} {x : Str} {st : Stmt} {ps N : List Str} {k : Nat}
variable {A : Type} {args : A → List IT} {ask : A → Prop} {res : A → IT} {outs : A → List Own}
end
section
variable {X : Cx} {e : Expr} {es : List Expr} {s s1 s2 : S} {rs : List SD} {pos p : Pos} {x : Str} {k j : Nat} {zd : PyData} {O O' : Own}
variable {A : Type} {args : A → List IT} {ask : A → Prop} {res : A → IT} {outs : A → List Own}
end
end Z

namespace Z
open PySem L2 PyProof.Rows

noncomputable instance decPD : DecidableEq PyData := fun a b => Classical.propDecidable (a = b)
mutual
def isAt (h : Heap) : PyData → Value → Prop
  | .int i, v => ∃ t, v = .int i t
  | .str x, v => ∃ t, v = .str x t
  | .tuple ds, v => ∃ a, v = .ref a ∧ ∃ o its n, h.get? a = some o ∧ o.cls = .type "tuple" ∧ o.data = .seq its n ∧ isAts h ds its.toList
  | _, _ => False
def isAts (h : Heap) : List PyData → List Value → Prop
  | [], [] => True
  | d :: ds, v :: vs => isAt h d v ∧ isAts h ds vs
  | _, _ => False
end
mutual
def dep : PyData → Nat
  | .tuple ds => deps ds + 1
  | _ => 0
def deps : List PyData → Nat
  | [] => 0
  | d :: ds => max (dep d) (deps ds)
end
mutual
def hashD (w : World) : PyData → Int
  | .int i => hashInt i
  | .str x => hashStr w x
  | .tuple ds => reduceHash (Builtin.Tuple.tupleHashOf (hashDs w ds))
  | _ => 0
def hashDs (w : World) : List PyData → List Int
  | [] => []
  | d :: ds => hashD w d :: hashDs w ds
end
mutual
def drw : PyData → Nat
  | .tuple ds => drws ds + 1
  | _ => 1
def drws : List PyData → Nat
  | [] => 0
  | d :: ds => drw d + drws ds
end
mutual
theorem isAt_inj {h : Heap} : ∀ {x y : PyData} {v : Value}, isAt h x v → isAt h y v → x = y
  | .int i, y, v, hx, hy => by
    obtain ⟨t, rfl⟩ := hx
    cases y with
    | int j => obtain ⟨t', e⟩ := hy; injection e with e1 _; rw [e1]
    | str => obtain ⟨t', e⟩ := hy; cases e
    | tuple => obtain ⟨a, e, _⟩ := hy; cases e
    | _ => exact hy.elim
  | .str i, y, v, hx, hy => by
    obtain ⟨t, rfl⟩ := hx
    cases y with
    | str j => obtain ⟨t', e⟩ := hy; injection e with e1 _; rw [e1]
    | int => obtain ⟨t', e⟩ := hy; cases e
    | tuple => obtain ⟨a, e, _⟩ := hy; cases e
    | _ => exact hy.elim
  | .tuple ds, y, v, hx, hy => by
    obtain ⟨a, rfl, o, its, n, h1, h2, h3, h4⟩ := hx
    cases y with
    | int j => obtain ⟨t', e⟩ := hy; cases e
    | str => obtain ⟨t', e⟩ := hy; cases e
    | tuple es =>
      obtain ⟨a', e, o', its', n', g1, g2, g3, g4⟩ := hy
      cases e
      rw [h1] at g1
      cases g1
      rw [h3] at g3
      cases g3
      rw [isAts_inj h4 g4]
    | _ => exact hy.elim
  | .none, _, _, hx, _ => hx.elim
  | .bool _, _, _, hx, _ => hx.elim
  | .list _, _, _, hx, _ => hx.elim
  | .dict _, _, _, hx, _ => hx.elim
theorem isAts_inj {h : Heap} : ∀ {x y : List PyData} {v : List Value}, isAts h x v → isAts h y v → x = y
  | [], [], [], _, _ => rfl
  | [], _ :: _, [], _, hy => hy.elim
  | _ :: _, _, [], hx, _ => hx.elim
  | [], _, _ :: _, hx, _ => hx.elim
  | _ :: _, [], _ :: _, _, hy => hy.elim
  | d :: ds, e :: es, v :: vs, hx, hy => by rw [isAt_inj hx.1 hy.1, isAts_inj hx.2 hy.2]
end
mutual
theorem isAt_keep {h h' : Heap} (k : ∀ a o its n, h.get? a = some o → o.data = .seq its n → h'.get? a = some o) : ∀ {x : PyData} {v : Value}, isAt h x v → isAt h' x v
  | .int i, v, hx => hx
  | .str i, v, hx => hx
  | .tuple ds, v, hx => by
    obtain ⟨a, e, o, its, n, h1, h2, h3, h4⟩ := hx
    exact ⟨a, e, o, its, n, k a o its n h1 h3, h2, h3, isAts_keep k h4⟩
  | .none, _, hx => hx.elim
  | .bool _, _, hx => hx.elim
  | .list _, _, hx => hx.elim
  | .dict _, _, hx => hx.elim
theorem isAts_keep {h h' : Heap} (k : ∀ a o its n, h.get? a = some o → o.data = .seq its n → h'.get? a = some o) : ∀ {x : List PyData} {v : List Value}, isAts h x v → isAts h' x v
  | [], [], _ => trivial
  | [], _ :: _, hx => hx.elim
  | _ :: _, [], hx => hx.elim
  | d :: ds, v :: vs, hx => ⟨isAt_keep k hx.1, isAts_keep k hx.2⟩
end
theorem isAts_len {h : Heap} : ∀ {x : List PyData} {v : List Value}, isAts h x v → x.length = v.length
  | [], [], _ => rfl
  | [], _ :: _, hx => hx.elim
  | _ :: _, [], hx => hx.elim
  | d :: ds, v :: vs, hx => by simp [isAts_len hx.2]
section
variable {prog : Program} {w : World}
theorem hash_tup (A : Around) (E : Value → Shared → Prop) (ds : List PyData) (ih : ∀ d ∈ ds, ∀ (s : Shared) (v : Value) (Q : Int → Shared → Prop), isAt s.heap d v → Q (hashD w d) { s with toks := s.toks + drw d } → wpAny (model prog w) A.in1 (pyHash v) Q E s)
    (s : Shared) (v : Value) (Q : Int → Shared → Prop) (hu : A.units < cLine) (hx : isAt s.heap (.tuple ds) v) (h : Q (hashD w (.tuple ds)) { s with toks := s.toks + drw (.tuple ds) }) : wpAny (model prog w) A (pyHash v) Q E s := by
  obtain ⟨a, rfl, o, its, n, ho, hc, hd, hi⟩ := hx
  have hT : s.TypeIs (.ref a) "tuple" := ⟨o, ho, hc⟩
  unfold pyHash pyHashByItsType
  refine wpAny_bind (wpAny_cRoomFor_or (.inr hu) ?_)
  refine wpAny_bind (wpAny_specialOf hT F.slot_tuple_hash.lookup ?_)
  have nn : (some (Value.builtin "tuple.__hash__") == some Value.none) = false := beq_builtin_none ..
  dsimp only
  rw [if_neg (by rw [nn]; exact Bool.false_ne_true)]
  refine wpAny_bind (wpAny_specialOf hT F.slot_tuple_hash.lookup ?_)
  refine wpAny_bind (wpAny_callSpecialIfBoundUnlessNone?_slot hT F.slot_tuple_hash (wpAny_call_entry F.slot_tuple_hash hT F.entry_tuple_hash ?_ (F.args_tuple_hash_1 _)))
  show wpAny _ _ (Builtin.Tuple.tupleItemsOf (.ref a) >>= _) _ _ s
  refine wpAny_bind (wpAny_tupleItemsOf ho hd ?_)
  refine wpAny_bind ?_
  rw [← Array.forIn_toList]
  refine wpAny_forIn_list _ (fun rest (b : Array Int) s' => ∃ xs ys, ds = xs ++ ys ∧ isAts s.heap ys rest ∧ b.toList = hashDs w xs ∧ s' = { s with toks := s.toks + drws xs }) _ ?_ ?_ _ _ ⟨[], ds, rfl, hi, rfl, rfl⟩
  · rintro x rest b s' ⟨xs, ys, e1, e2, e3, rfl⟩
    cases ys with
    | nil => exact e2.elim
    | cons y ys =>
      refine wpAny_bind (ih y (by rw [e1]; simp) _ x _ e2.1 ?_)
      refine wpAny_pure ⟨xs ++ [y], ys, by rw [e1]; simp, e2.2, ?_, ?_⟩
      · rw [Array.toList_push, e3]
        clear e1 e3
        induction xs with
        | nil => rfl
        | cons z zs ihz =>
          show hashD w z :: (hashDs w zs ++ [hashD w y]) = hashD w z :: hashDs w (zs ++ [y])
          rw [ihz]
      · have dl : ∀ l : List PyData, drws (l ++ [y]) = drws l + drw y := fun l => by
          induction l with
          | nil => show drw y + 0 = 0 + drw y; omega
          | cons z zs ihz => show drw z + drws (zs ++ [y]) = drw z + drws zs + drw y; rw [ihz]; omega
        rw [dl, Nat.add_assoc]
  · rintro b s' ⟨xs, ys, e1, e2, e3, rfl⟩
    cases ys with
    | cons y ys => exact e2.elim
    | nil =>
      rw [List.append_nil] at e1
      subst e1
      show wpAny _ _ (retInt (Builtin.Tuple.tupleHashOf b.toList)) _ _ _
      rw [e3]
      refine wpAny_ret_mkInt ?_
      have hh : Q (reduceHash (Builtin.Tuple.tupleHashOf (hashDs w ds))) { s with toks := s.toks + (drws ds + 1) } := h
      unfold reduceHash at hh
      show wpAny _ _ (pyHashByItsType.reduced (Builtin.Tuple.tupleHashOf (hashDs w ds))) Q E _
      unfold pyHashByItsType.reduced
      by_cases hr : (decide (-(2 : Int) ^ 63 ≤ Builtin.Tuple.tupleHashOf (hashDs w ds)) && decide (Builtin.Tuple.tupleHashOf (hashDs w ds) < 2 ^ 63)) = true
      · rw [if_pos hr] at hh ⊢
        exact wpAny_pure (by rw [Nat.add_assoc]; exact hh)
      · rw [if_neg hr] at hh ⊢
        exact wpAny_bind (wpAny_rule (wpAny_pure (by rw [Nat.add_assoc]; exact hh)))
theorem dep_mem : ∀ {ds : List PyData} {d : PyData}, d ∈ ds → dep d ≤ deps ds
  | [], d, h => by simp at h
  | e :: es, d, h => by
    have h1 : deps (e :: es) = max (dep e) (deps es) := rfl
    rcases List.mem_cons.mp h with z | z
    · subst z; omega
    · have := dep_mem z; omega
def HP (prog : Program) (w : World) (E : Value → Shared → Prop) (d : PyData) : Prop := ∀ (A : Around) (s : Shared) (v : Value) (Q : Int → Shared → Prop), A.units + dep d < cLine → isAt s.heap d v → Q (hashD w d) { s with toks := s.toks + drw d } → wpAny (model prog w) A (pyHash v) Q E s
mutual
theorem hash_at (E : Value → Shared → Prop) : ∀ (d : PyData), HP prog w E d
  | .int i => fun A s v Q hu hx h => by
    obtain ⟨t, rfl⟩ := hx
    exact wpAny_pyHash_int h
  | .str i => fun A s v Q hu hx h => by
    obtain ⟨t, rfl⟩ := hx
    exact wpAny_pyHash_str h
  | .tuple ds => fun A s v Q hu hx h => by
    have e : dep (.tuple ds) = deps ds + 1 := rfl
    have l := hash_all E ds
    exact hash_tup A E ds (fun d hd s v Q hx h => l d hd A.in1 s v Q (by have := dep_mem hd; show A.units + 1 + dep d < cLine; omega) hx h) s v Q (by omega) hx h
  | .none => fun _ _ _ _ _ hx _ => hx.elim
  | .bool _ => fun _ _ _ _ _ hx _ => hx.elim
  | .list _ => fun _ _ _ _ _ hx _ => hx.elim
  | .dict _ => fun _ _ _ _ _ hx _ => hx.elim
theorem hash_all (E : Value → Shared → Prop) : ∀ (ds : List PyData), ∀ d ∈ ds, HP prog w E d
  | [] => fun d hd => by simp at hd
  | e :: es => fun d hd => by
    have h1 := hash_at E e
    have h2 := hash_all E es
    rcases List.mem_cons.mp hd with z | z
    · rw [z]; exact h1
    · exact h2 d z
end
theorem eq_tup (A : Around) (E : Value → Shared → Prop) (ds es : List PyData) (ih : ∀ d ∈ ds, ∀ (e : PyData) (s : Shared) (u v : Value) (Q : Bool → Shared → Prop) (E : Value → Shared → Prop), isAt s.heap d u → isAt s.heap e v → Q (decide (d = e)) s → wpAny (model prog w) A.in1 (eqBool u v) Q E s)
    (s : Shared) (u v : Value) (Q : Bool → Shared → Prop) (hu : A.units < cLine) (hx : isAt s.heap (.tuple ds) u) (hy : isAt s.heap (.tuple es) v) (h : Q (decide (PyData.tuple ds = PyData.tuple es)) s) : wpAny (model prog w) A (eqBool u v) Q E s := by
  have hx0 := hx
  have hy0 := hy
  obtain ⟨a, rfl, oa, xs, na, hoa, hca, hda, hia⟩ := hx
  obtain ⟨b, rfl, ob, ys, nb, hob, hcb, hdb, hib⟩ := hy
  have hTa : s.TypeIs (.ref a) "tuple" := ⟨oa, hoa, hca⟩
  have hTb : s.TypeIs (.ref b) "tuple" := ⟨ob, hob, hcb⟩
  unfold eqBool
  refine wpAny_holding ?_
  by_cases hab : (Value.ref a == Value.ref b) = true
  · rw [if_pos hab]
    have e : a = b := by have := eq_of_beq hab; injection this
    subst e
    have e2 := isAt_inj hx0 hy0
    rw [decide_eq_true e2] at h
    exact wpAny_bind (wpAny_rule (wpAny_pure h))
  · rw [if_neg hab]
    refine wpAny_bind (wpAny_richCompare_same_room (op := .Eq) hTa hTb F.slot_tuple_eq (wpAny_call_entry F.slot_tuple_eq hTa F.entry_tuple_eq ?_ (F.args_tuple_eq_2 _ _)) hu)
    show wpAny _ _ (isInstance (.ref b) (.type "tuple") >>= _) _ _ s
    refine wpAny_bind (wpAny_isInstance hTb isSubtype_tuple_tuple ?_)
    simp only [Bool.not_true, Bool.false_eq_true, if_false]
    refine wpAny_bind (wpAny_tupleItemsOf hoa hda ?_)
    refine wpAny_bind (wpAny_tupleItemsOf hob hdb ?_)
    refine wpAny_bind ?_
    refine wpAny_forIn_list _ (fun rest r s' => r.1 = none ∧ s' = s ∧ ∃ ds1 ds2 es2 xs2 ys2, ds = ds1 ++ ds2 ∧ rest = List.zip xs2 ys2 ∧ isAts s.heap ds2 xs2 ∧ isAts s.heap es2 ys2 ∧ (ds = es ↔ ds2 = es2) ∧ (xs2.length == ys2.length) = (xs.size == ys.size)) _ ?_ ?_ _ _
      ⟨rfl, rfl, [], ds, es, xs.toList, ys.toList, rfl, rfl, hia, hib, Iff.rfl, by simp⟩
    · rintro ⟨p, q⟩ rest r s' ⟨hr, rfl, ds1, ds2, es2, xs2, ys2, e0, hz, hx', hy', hiff, hlen⟩
      match ds2, xs2, es2, ys2, hx', hy', hz with
      | d :: ds2, x :: xs2, e :: es2, y :: ys2, hx', hy', hz =>
        simp only [List.zip_cons_cons, List.cons.injEq, Prod.mk.injEq] at hz
        obtain ⟨⟨rfl, rfl⟩, rfl⟩ := hz
        refine wpAny_bind (ih d (by rw [e0]; simp) e _ p q _ _ hx'.1 hy'.1 ?_)
        by_cases hde : d = e
        · subst hde
          rw [decide_eq_true rfl]
          simp only [Bool.not_true, Bool.false_eq_true, if_false]
          exact wpAny_pure ⟨rfl, rfl, ds1 ++ [d], ds2, es2, xs2, ys2, by rw [e0]; simp, rfl, hx'.2, hy'.2, by rw [hiff]; simp, by simpa using hlen⟩
        · rw [decide_eq_false hde]
          simp only [Bool.not_false, if_true]
          have nf : ¬ PyData.tuple ds = PyData.tuple es := fun z => hde (by
            injection z with z
            have := hiff.mp z
            injection this)
          rw [decide_eq_false nf] at h
          exact wpAny_bind (wpAny_pure (wpAny_pure (wpAny_pure ⟨_, rfl, (fun z => nomatch z), wpAny_truthy_bool h⟩)))
      | [], [], _, _, _, _, hz => simp at hz
      | _ :: _, _ :: _, [], [], _, _, hz => simp at hz
      | [], _ :: _, _, _, hx', _, _ => exact hx'.elim
      | _ :: _, [], _, _, hx', _, _ => exact hx'.elim
      | _ :: _, _ :: _, [], _ :: _, _, hy', _ => exact hy'.elim
      | _ :: _, _ :: _, _ :: _, [], _, hy', _ => exact hy'.elim
    · rintro ⟨r1, r2⟩ s' ⟨hr, rfl, ds1, ds2, es2, xs2, ys2, e0, hz, hx', hy', hiff, hlen⟩
      simp only at hr
      subst hr
      refine wpAny_pure ?_
      have fin : (xs.size == ys.size) = decide (PyData.tuple ds = PyData.tuple es) := by
        rw [← hlen]
        have l1 := isAts_len hx'
        have l2 := isAts_len hy'
        have z : xs2 = [] ∨ ys2 = [] := by
          cases xs2 with
          | nil => exact .inl rfl
          | cons x xs2 => cases ys2 with
            | nil => exact .inr rfl
            | cons y ys2 => simp at hz
        by_cases q : ds2 = es2
        · have e1 : PyData.tuple ds = PyData.tuple es := by rw [hiff.mpr q]
          rw [decide_eq_true e1, ← l1, ← l2, q]
          simp
        · have e1 : ¬ PyData.tuple ds = PyData.tuple es := fun w => q (hiff.mp (by injection w))
          rw [decide_eq_false e1, beq_eq_false_iff_ne, ← l1, ← l2]
          intro w
          apply q
          rcases z with z | z
          · subst z
            have a1 : ds2 = [] := List.eq_nil_of_length_eq_zero l1
            subst a1
            exact (List.eq_nil_of_length_eq_zero w.symm).symm
          · subst z
            have a1 : es2 = [] := List.eq_nil_of_length_eq_zero l2
            subst a1
            exact List.eq_nil_of_length_eq_zero w
      show ∃ _, _
      refine ⟨_, rfl, (fun z => nomatch z), ?_⟩
      refine wpAny_truthy_bool ?_
      rw [fin]
      exact h
def EP1 (prog : Program) (w : World) (d : PyData) : Prop := ∀ (A : Around) (s : Shared) (e : PyData) (u v : Value) (Q : Bool → Shared → Prop) (E : Value → Shared → Prop), A.units + dep d < cLine → isAt s.heap d u → isAt s.heap e v → Q (decide (d = e)) s → wpAny (model prog w) A (eqBool u v) Q E s
theorem at_tup {h : Heap} {ds : List PyData} {v : Value} (hx : isAt h (.tuple ds) v) : ∃ a its, v = .ref a ∧ h.IsTuple a its := by
  obtain ⟨a, e, o, its, n, h1, h2, h3, _⟩ := hx
  exact ⟨a, its, e, o, h1, h2, n, h3⟩
mutual
theorem eq_at : ∀ (d : PyData), EP1 prog w d
  | .int i => fun A s e u v Q E hu hx hy h => by
    obtain ⟨t, rfl⟩ := hx
    cases e with
    | int j =>
      obtain ⟨t', rfl⟩ := hy
      refine SeqAt.EqAt.int_int i t j t' prog w E Q ?_
      have e : decide (PyData.int i = PyData.int j) = (i == j) := by rw [Bool.eq_iff_iff]; simp
      rw [← e]
      exact h
    | str x =>
      obtain ⟨t', rfl⟩ := hy
      exact SeqAt.EqAt.int_str i t x t' prog w E Q (by rw [decide_eq_false (fun z => by cases z)] at h; exact h)
    | tuple es =>
      obtain ⟨a, its, rfl, hT⟩ := at_tup hy
      exact SeqAt.EqAt.int_tuple i t hT (by omega) prog w E Q (by rw [decide_eq_false (fun z => by cases z)] at h; exact h)
    | _ => exact hy.elim
  | .str x => fun A s e u v Q E hu hx hy h => by
    obtain ⟨t, rfl⟩ := hx
    cases e with
    | int j =>
      obtain ⟨t', rfl⟩ := hy
      exact SeqAt.EqAt.str_int x t j t' prog w E Q (by rw [decide_eq_false (fun z => by cases z)] at h; exact h)
    | str y =>
      obtain ⟨t', rfl⟩ := hy
      refine SeqAt.EqAt.str_str x t y t' prog w E Q ?_
      have e : decide (PyData.str x = PyData.str y) = (x == y) := by rw [Bool.eq_iff_iff]; simp
      rw [← e]
      exact h
    | tuple es =>
      obtain ⟨a, its, rfl, hT⟩ := at_tup hy
      exact SeqAt.EqAt.str_tuple x t hT (by omega) prog w E Q (by rw [decide_eq_false (fun z => by cases z)] at h; exact h)
    | _ => exact hy.elim
  | .tuple ds => fun A s e u v Q E hu hx hy h => by
    have e1 : dep (.tuple ds) = deps ds + 1 := rfl
    have l := eq_all ds
    cases e with
    | int j =>
      obtain ⟨t', rfl⟩ := hy
      obtain ⟨a, its, rfl, hT⟩ := at_tup hx
      exact SeqAt.EqAt.tuple_int j t' hT (by omega) prog w E Q (by rw [decide_eq_false (fun z => by cases z)] at h; exact h)
    | str y =>
      obtain ⟨t', rfl⟩ := hy
      obtain ⟨a, its, rfl, hT⟩ := at_tup hx
      exact SeqAt.EqAt.tuple_str y t' hT (by omega) prog w E Q (by rw [decide_eq_false (fun z => by cases z)] at h; exact h)
    | tuple es => exact eq_tup A E ds es (fun d hd e s u v Q E hx hy h => l d hd A.in1 s e u v Q E (by have := dep_mem hd; show A.units + 1 + dep d < cLine; omega) hx hy h) s u v Q (by omega) hx hy h
    | _ => exact hy.elim
  | .none => fun _ _ _ _ _ _ _ _ hx _ _ => hx.elim
  | .bool _ => fun _ _ _ _ _ _ _ _ hx _ _ => hx.elim
  | .list _ => fun _ _ _ _ _ _ _ _ hx _ _ => hx.elim
  | .dict _ => fun _ _ _ _ _ _ _ _ hx _ _ => hx.elim
theorem eq_all : ∀ (ds : List PyData), ∀ d ∈ ds, EP1 prog w d
  | [] => fun d hd => by simp at hd
  | e :: es => fun d hd => by
    have h1 := eq_at e
    have h2 := eq_all es
    rcases List.mem_cons.mp hd with z | z
    · rw [z]; exact h1
    · exact h2 d z
end
theorem quiet_tup {A : Around} {E : Value → Shared → Prop} {s : Shared} (n : Nat) (ds : List PyData) (ih : ∀ d ∈ ds, ∀ (v : Value) (Q : Bool → Shared → Prop), isAt s.heap d v → Q true s → wpAny (model prog w) A (eqIsQuiet n v) Q E s)
    (v : Value) (Q : Bool → Shared → Prop) (hx : isAt s.heap (.tuple ds) v) (h : Q true s) : wpAny (model prog w) A (eqIsQuiet (n + 1) v) Q E s := by
  obtain ⟨a, rfl, o, its, m, ho, hc, hd, hi⟩ := hx
  have hT : s.TypeIs (.ref a) "tuple" := ⟨o, ho, hc⟩
  unfold eqIsQuiet
  refine wpAny_bind (wpAny_specialOf hT F.slot_tuple_eq.lookup ?_)
  show wpAny _ _ (isInstance (.ref a) (.type "tuple") >>= _) _ _ s
  refine wpAny_bind (wpAny_isInstance hT isSubtype_tuple_tuple ?_)
  simp only [Bool.not_true, Bool.false_eq_true, if_false]
  refine wpAny_bind (wpAny_seqItems ho hd ?_)
  refine wpAny_bind ?_
  show wpAny _ _ (forIn its _ _) _ _ s
  rw [← Array.forIn_toList]
  refine wpAny_forIn_list _ (fun rest r s' => r.1 = none ∧ s' = s ∧ ∃ d1 d2, ds = d1 ++ d2 ∧ isAts s.heap d2 rest) _ ?_ ?_ _ _ ⟨rfl, rfl, [], ds, rfl, hi⟩
  · rintro v rest r s' ⟨hr, rfl, d1, d2, e1, e2⟩
    cases d2 with
    | nil => exact e2.elim
    | cons d d2 =>
      refine wpAny_bind (ih d (by rw [e1]; simp) v _ e2.1 ?_)
      simp only [Bool.not_true, Bool.false_eq_true, if_false]
      exact wpAny_pure ⟨rfl, rfl, d1 ++ [d], d2, by rw [e1]; simp, e2.2⟩
  · rintro ⟨r1, r2⟩ s' ⟨hr, rfl, _⟩
    simp only at hr
    subst hr
    exact wpAny_pure h
def QP (prog : Program) (w : World) (d : PyData) : Prop := ∀ (A : Around) (E : Value → Shared → Prop) (s : Shared) (n : Nat) (v : Value) (Q : Bool → Shared → Prop), dep d ≤ n → isAt s.heap d v → Q true s → wpAny (model prog w) A (eqIsQuiet n v) Q E s
mutual
theorem quiet_at : ∀ (d : PyData), QP prog w d
  | .int i => fun A E s n v Q hn hx h => by
    obtain ⟨t, rfl⟩ := hx
    rw [eqIsQuiet_byValue n rfl]
    exact wpAny_pure h
  | .str i => fun A E s n v Q hn hx h => by
    obtain ⟨t, rfl⟩ := hx
    rw [eqIsQuiet_byValue n rfl]
    exact wpAny_pure h
  | .tuple ds => fun A E s n v Q hn hx h => by
    have e1 : dep (.tuple ds) = deps ds + 1 := rfl
    have l := quiet_all ds
    cases n with
    | zero => omega
    | succ n => exact quiet_tup n ds (fun d hd v Q hx h => l d hd A E s n v Q (by have := dep_mem hd; omega) hx h) v Q hx h
  | .none => fun _ _ _ _ _ _ _ hx _ => hx.elim
  | .bool _ => fun _ _ _ _ _ _ _ hx _ => hx.elim
  | .list _ => fun _ _ _ _ _ _ _ hx _ => hx.elim
  | .dict _ => fun _ _ _ _ _ _ _ hx _ => hx.elim
theorem quiet_all : ∀ (ds : List PyData), ∀ d ∈ ds, QP prog w d
  | [] => fun d hd => by simp at hd
  | e :: es => fun d hd => by
    have h1 := quiet_at e
    have h2 := quiet_all es
    rcases List.mem_cons.mp hd with z | z
    · rw [z]; exact h1
    · exact h2 d z
end
end
/-- tuples as keys -/
noncomputable def dkind (prog : Program) (w : World) : HeapKind prog w PyData where
  is := fun h d a => dep d ≤ 8 ∧ isAt h d (.ref a)
  hash := hashD w
  draws := drw
  room := fun A => A.units + 10 < cLine
  inj := fun hx hy => isAt_inj hx.2 hy.2
  keeps := fun {h h' k a d o es ep} hx ho hd hs => ⟨hx.1, isAt_keep (fun b ob its n e1 e2 => by
    by_cases hb : b = d
    · subst hb
      rw [ho] at e1
      cases e1
      rw [hd] at e2
      cases e2
    · exact (hs.2 b hb).trans e1) hx.2⟩
  pyHash := fun {A E s k a Q} hu hx h => hash_at E k A s _ Q (by have := hx.1; omega) hx.2 h
  eqBool := fun {A E s x y a b Q} hu hx hy h => eq_at x A s y _ _ Q E (by have := hx.1; omega) hx.2 hy.2 h
  quiet := fun {A E s k a Q} hx h => quiet_at k A E s 8 _ Q hx.1 hx.2 h
end Z

namespace Z
open PySem L2 PyProof.Rows

mutual
def kOK : PyData → Bool
  | .int _ => true
  | .str _ => true
  | .tuple ds => kOKs ds
  | _ => false
def kOKs : List PyData → Bool
  | [] => true
  | d :: ds => kOK d && kOKs ds
end
abbrev DEn := PyData × Addr × Value
def DxO (P : Program) (w : World) (a : Addr) (xs : List DEn) : HO := .ext fun h => xs.length ≤ sizeLine ∧ (a == sysModules) = false ∧
  ∃ o es ep, h.get? a = some o ∧ o.ExactDict ∧ o.data = .dict es ep ∧ es.toList = xs.map (entryOfKey (dkind P w)) ∧ (xs.map (·.1)).Nodup
/-- a key as it stands -/
def KyD (K : PySem.W.Frag) (H : Hp) (a : Addr) (d : PyData) : Prop := Dp K H (.ref a) d ∧ kOK d = true ∧ dep d ≤ 8
section
variable {X : Cx} {pins : List (Addr × Obj)} {σ : L2.St} {H : Hp} {s : Shared}
mutual
theorem dp_at (I : Inv X pins σ H s) : ∀ (d : PyData) (v : V) (u : Value), kOK d = true → Dp X.K H v d → RelV v u → isAt s.heap d u
  | .int i, _, _, _, h, r => by cases h; exact r
  | .str i, _, _, _, h, r => by cases h; exact r
  | .tuple ds, _, _, k, h, r => by
    cases h with
    | tup hs ha =>
      cases r
      obtain ⟨its, rv, ⟨o, ho, hc, n, hd⟩, _⟩ := I.tuple hs
      exact ⟨_, rfl, o, _, n, ho, hc, hd, dps_at I ds _ its k ha rv⟩
  | .none, _, _, k, _, _ => by cases k
  | .bool _, _, _, k, _, _ => by cases k
  | .list _, _, _, k, _, _ => by cases k
  | .dict _, _, _, k, _, _ => by cases k
theorem dps_at (I : Inv X pins σ H s) : ∀ (ds : List PyData) (vs : List V) (us : List Value), kOKs ds = true → DpAll X.K H vs ds → Vals vs us → isAts s.heap ds us
  | [], _, _, _, h, r => by cases h; cases r; trivial
  | d :: ds, _, _, k, h, r => by
    cases h with
    | cons h1 h2 =>
      cases r with
      | cons r1 r2 =>
        have k' : (kOK d && kOKs ds) = true := k
        rw [Bool.and_eq_true] at k'
        exact ⟨dp_at I d _ _ k'.1 h1 r1, dps_at I ds _ _ k'.2 h2 r2⟩
end
theorem dx_of {P : Program} {w : World} {h : Heap} {a : Addr} {xs : List DEn} (ok : HOk P w H h) (e : H a = some (DxO P w a xs)) : xs.length ≤ sizeLine ∧ (a == sysModules) = false ∧ ∃ o es ep, h.get? a = some o ∧ o.ExactDict ∧ o.data = .dict es ep ∧ es.toList = xs.map (entryOfKey (dkind P w)) ∧ (xs.map (·.1)).Nodup := (ok a _ e).1
theorem dx_new {P : Program} {w : World} {h : Heap} {a : Addr} {xs : List DEn} (h1 : xs.length ≤ sizeLine) (h2 : (a == sysModules) = false) (h3 : ∃ o es ep, h.get? a = some o ∧ o.ExactDict ∧ o.data = .dict es ep ∧ es.toList = xs.map (entryOfKey (dkind P w)) ∧ (xs.map (·.1)).Nodup) : ObjOk P w H h a (DxO P w a xs) :=
  ⟨⟨h1, h2, h3⟩, let ⟨o, _, _, e, _⟩ := h3; ⟨o, e⟩, fun g1 g2 ⟨p1, p2, o, es, ep, e, r⟩ k => ⟨p1, p2, o, es, ep, k o e, r⟩⟩
theorem dx_H (I : Inv X pins σ H s) {a : Addr} {xs : List DEn} (e : H a = some (DxO X.prog X.w a xs)) (k : ∀ x ∈ xs, KyD X.K H x.2.1 x.1) : xs.length ≤ sizeLine ∧ (a == sysModules) = false ∧ s.heap.DictOfH (dkind X.prog X.w) a xs := by
  obtain ⟨h1, h2, o, es, ep, h3, h4, h5, h6, h7⟩ := dx_of I.hok e
  exact ⟨h1, h2, o, es, ep, h3, h4, h5, h6, fun x hx => ⟨(k x hx).2.2, dp_at I _ _ _ (k x hx).2.1 (k x hx).1 rfl⟩, h7⟩
theorem nd_sub {α : Type} [DecidableEq α] {l1 : List α} : ∀ (_ : l1.Nodup) {l2 : List α} (_ : ∀ x ∈ l1, x ∈ l2), l1.length ≤ l2.length := by
  induction l1 with
  | nil => intro _ _ _; exact Nat.zero_le _
  | cons a l ih =>
    intro nd l2 h
    rw [List.nodup_cons] at nd
    have h1 := ih nd.2 (l2 := l2.erase a) fun x hx => (List.mem_erase_of_ne (fun (e : x = a) => nd.1 (by rw [← e]; exact hx))).mpr (h x (List.mem_cons_of_mem _ hx))
    have h2 : a ∈ l2 := h a List.mem_cons_self
    have h3 := List.length_erase_of_mem h2
    have h4 := List.length_pos_of_mem h2
    rw [List.length_cons]
    omega
/-- what stands at a key -/
noncomputable def atD (xs : List DEn) (d : PyData) : Option Value := (atKey xs d).map (·.2)
def rInX (X : Cx) (neg : Bool) : R2 := fun x y H Q => ∃ p b xs d, y = .ref p ∧ x = .ref b ∧ H p = some (DxO X.prog X.w p xs) ∧ (∀ e ∈ xs, KyD X.K H e.2.1 e.1) ∧ KyD X.K H b d ∧ Q (.bl (if neg then !(atKey xs d).isSome else (atKey xs d).isSome)) H
theorem op_inX (hu : X.A.units + 20 < cLine) : OpR X (compareOp .In) (rInX X false) := by
  intro pins s σ H x y v u Q I rx ry h
  obtain ⟨p, b, xs, d, rfl, rfl, hp, hk, hb, q⟩ := h
  cases rx
  cases ry
  obtain ⟨h1, h2, h3⟩ := dx_H I hp hk
  exact wpAny_in_heap (knd := dkind X.prog X.w) (k := d) (show X.A.units + 1 + 10 < cLine by omega) ⟨hb.2.2, dp_at I _ _ _ hb.2.1 hb.1 rfl⟩ h2 h3 ⟨.bl _, H, I.tok _, rfl, q⟩
theorem op_ninX (hu : X.A.units + 20 < cLine) : OpR X (compareOp .NotIn) (rInX X true) := by
  intro pins s σ H x y v u Q I rx ry h
  obtain ⟨p, b, xs, d, rfl, rfl, hp, hk, hb, q⟩ := h
  cases rx
  cases ry
  obtain ⟨h1, h2, h3⟩ := dx_H I hp hk
  exact wpAny_notIn_heap (knd := dkind X.prog X.w) (k := d) (show X.A.units + 1 + 10 < cLine by omega) ⟨hb.2.2, dp_at I _ _ _ hb.2.1 hb.1 rfl⟩ h2 h3 ⟨.bl _, H, I.tok _, rfl, q⟩
def rIxX (X : Cx) : R2 := fun x y H Q => ∃ p b xs d c u v, x = .ref p ∧ y = .ref b ∧ H p = some (DxO X.prog X.w p xs) ∧ (∀ e ∈ xs, KyD X.K H e.2.1 e.1) ∧ KyD X.K H b d ∧ atKey xs d = some (c, u) ∧ RelV v u ∧ Q v H
theorem ix_X (hu : X.A.units + 20 < cLine) : IxR X (rIxX X) := by
  intro value slice pins s σ H x y v u Q I rx ry h hs
  obtain ⟨p, b, xs, d, c, u', v', rfl, rfl, hp, hk, hb, ha, rv, q⟩ := h
  cases rx
  cases ry
  obtain ⟨h1, h2, h3⟩ := dx_H I hp hk
  refine tail_any h3.typeIs slot_dict_getitem.lookup ?_ hs
  exact wpAny_getItem_heap (knd := dkind X.prog X.w) (k := d) (show X.A.units + 1 + 10 < cLine by omega) ⟨hb.2.2, dp_at I _ _ _ hb.2.1 hb.1 rfl⟩ h3 ha ⟨v', H, I.tok _, rv, q⟩
def rPutX (X : Cx) : TSet := fun o i v H Q => ∃ p b xs d, o = .ref p ∧ i = .ref b ∧ H p = some (DxO X.prog X.w p xs) ∧ (∀ e ∈ xs, KyD X.K H e.2.1 e.1) ∧ KyD X.K H b d ∧ (∃ U : List PyData, U.length < sizeLine ∧ ∀ e ∈ xs, e.1 ∈ U) ∧ ∀ u, RelV v u → Q (upd H p (DxO X.prog X.w p (storedH xs d b u)))
theorem put_X (hu : X.A.units + 20 < cLine) : PSet X (rPutX X) := by
  intro pins s σ H o i v ov iv u Q I ro ri rv h
  obtain ⟨p, b, xs, d, rfl, rfl, hp, hk, hb, ⟨U, hU, hin⟩, q⟩ := h
  cases ro
  cases ri
  have hl : xs.length < sizeLine := by
    obtain ⟨_, _, _, _, _, _, _, _, _, nd⟩ := dx_of I.hok hp
    have := (nd_sub nd (l2 := U) fun x hx => by obtain ⟨e, he, q⟩ := List.mem_map.mp hx; rw [← q]; exact hin e he)
    rw [List.length_map] at this
    omega
  obtain ⟨h1, h2, h3⟩ := dx_H I hp hk
  refine wpAny_setItem_heap (knd := dkind X.prog X.w) (k := d) (hsz := h1) (show X.A.units + 1 + 10 < cLine by omega) ⟨hb.2.2, dp_at I _ _ _ hb.2.1 hb.1 rfl⟩ h3 fun h' hm hs => ?_
  obtain ⟨o, es, ep, e1, e2, e3, e4, _, e6⟩ := hm
  have ln : (storedH xs d b u).length ≤ sizeLine := by
    unfold storedH
    split
    · simpa using h1
    · simp; omega
  refine ⟨_, d_write (ob := DxO X.prog X.w p (storedH xs d b u)) I (by rw [hp]; exact True.intro) hs ⟨o, e1⟩ (dx_new ln h2 ⟨o, es, ep, e1, e2, e3, e4, e6⟩), q u rv⟩
/-- {} -/
theorem pe_newX {pos : Pos} : PE X (.Dict [] [] pos) (fun _ H Q => ∀ p, H p = none → Q (.ref p) (upd H p (DxO X.prog X.w p []))) := by
  refine ⟨fun pins s σ H Q I h => ?_⟩
  refine wpAny_Dict_empty ⟨.ref s.heap.objs.size, _, I.laid (a := s.heap.objs.size) (o := DxO X.prog X.w s.heap.objs.size []) (t' := s.toks) (fun _ _ q => Heap.get?_push_of_some _ q) (Nat.le_refl _) ?_, rfl, h _ (I.hok.fresh (Nat.le_refl _))⟩
  refine dx_new (Nat.zero_le _) ?_ ⟨_, #[], 0, Heap.get?_push_size _ rfl, ⟨rfl, rfl, rfl⟩, rfl, rfl, List.nodup_nil⟩
  exact beq_eq_false_iff_ne.mpr (Nat.ne_of_gt I.big)
end
end Z

namespace Z
open PySem L2 PyProof.Rows

section
variable {X : Cx} {e a b c : Expr} {es : List Expr} {st : Stmt} {rest body : List Stmt} {s s' s1 s2 s3 : S} {r : SD} {rs : List SD} {pos p : Pos} {R : Bool → S → Prop} {k : Bool} {P : Po} {M : S → Prop} {ds : List PyData} {x y : PyData} {i j : Int}
def OLe (P Q : Own) : Prop := ∀ K F H v fp, P.holds K F H v fp → Q.holds K F H v fp
theorem set_self {α : Type} {l : List α} {j : Nat} {a : α} (h : l[j]? = some a) : l.set j a = l := by
  obtain ⟨hj, e⟩ := List.getElem?_eq_some_iff.mp h
  subst e
  exact List.set_getElem_self hj

/-- a dict of answers: each told answer is right -/
def OM (pr : Program) (w : World) (f : PyData → PyData → Prop) : Own where
  holds := fun K F H v fp => ∃ p xs, v = .ref p ∧ fp = [p] ∧ H p = some (DxO pr w p xs) ∧ ∀ e ∈ xs, KyD K F e.2.1 e.1 ∧ ∃ vv dv, RelV vv e.2.2 ∧ Dp K F vv dv ∧ f e.1 dv
  stay := fun ⟨p, xs, e1, e2, e3, e4⟩ e k => ⟨p, xs, e1, e2, k p (by rw [e2]; simp) _ e3, fun z hz => let ⟨⟨a1, a2, a3⟩, vv, dv, a4, a5, a6⟩ := e4 z hz; ⟨⟨dpUp e _ _ a1, a2, a3⟩, vv, dv, a4, dpUp e _ _ a5, a6⟩⟩
/-- .. that knows the key d -/
def OMk (pr : Program) (w : World) (f : PyData → PyData → Prop) (d : PyData) : Own where
  holds := fun K F H v fp => ∃ p xs, v = .ref p ∧ fp = [p] ∧ H p = some (DxO pr w p xs) ∧ (atKey xs d).isSome = true ∧ ∀ e ∈ xs, KyD K F e.2.1 e.1 ∧ ∃ vv dv, RelV vv e.2.2 ∧ Dp K F vv dv ∧ f e.1 dv
  stay := fun ⟨p, xs, e1, e2, e3, e0, e4⟩ e k => ⟨p, xs, e1, e2, k p (by rw [e2]; simp) _ e3, e0, fun z hz => let ⟨⟨a1, a2, a3⟩, vv, dv, a4, a5, a6⟩ := e4 z hz; ⟨⟨dpUp e _ _ a1, a2, a3⟩, vv, dv, a4, dpUp e _ _ a5, a6⟩⟩
theorem OMk.le {pr : Program} {w : World} {f : PyData → PyData → Prop} {d : PyData} : OLe (OMk pr w f d) (OM pr w f) := fun K F H v fp ⟨p, xs, e1, e2, e3, _, e4⟩ => ⟨p, xs, e1, e2, e3, e4⟩
theorem KyD.up {K : PySem.W.Frag} {F H : Hp} {a : Addr} {d : PyData} (e : Ext F H) (h : KyD K F a d) : KyD K H a d := ⟨dpUp e _ _ h.1, h.2.1, h.2.2⟩
theorem storedH_mem {xs : List DEn} {d : PyData} {b : Addr} {u : Value} {e : DEn} (h : e ∈ storedH xs d b u) : e ∈ xs ∨ e = (d, b, u) ∨ ∃ z ∈ xs, z.1 = d ∧ e = (d, z.2.1, u) := by
  unfold storedH at h
  split at h
  · obtain ⟨z, hz, e1⟩ := List.mem_map.mp h
    unfold putAt at e1
    split at e1
    · rename_i hd
      subst e1
      exact .inr (.inr ⟨z, hz, hd, by rw [hd]⟩)
    · subst e1
      exact .inl hz
  · rcases List.mem_append.mp h with h | h
    · exact .inl h
    · exact .inr (.inl (by simpa using h))
theorem storedH_has {xs : List DEn} {d : PyData} {b : Addr} {u : Value} : (atKey (storedH xs d b u) d).isSome = true := by
  unfold storedH
  split
  · rename_i h
    unfold atKey at h ⊢
    rw [Option.isSome_map] at h ⊢
    rw [List.find?_isSome] at h ⊢
    obtain ⟨z, hz, e⟩ := h
    refine ⟨putAt d u z, List.mem_map.mpr ⟨z, hz, rfl⟩, ?_⟩
    have e1 : z.1 = d := of_decide_eq_true e
    unfold putAt
    rw [if_pos e1]
    exact e
  · unfold atKey
    rw [Option.isSome_map, List.find?_isSome]
    exact ⟨(d, b, u), by simp, by simp⟩
/-- a memo among the objects -/
theorem Sat.memo {K : PySem.W.Frag} {pr : Program} {w : World} {f : PyData → PyData → Prop} {σ : L2.St} {ρ : List V} {T : List En} {H : Hp} {o : Nat} {v : V} {O : Own} (g : Sat K s σ ρ T H) (ho : s.R[o]? = some O) (hO : OLe O (OM pr w f)) (hv : ρ[o]? = some v) :
    ∃ F p xs, v = .ref p ∧ H p = some (DxO pr w p xs) ∧ Ext F H ∧ (∀ {x u}, (IT.d x, some u) ∈ T → Dp K F u x) ∧ (∀ e ∈ xs, KyD K F e.2.1 e.1 ∧ ∃ vv dv, RelV vv e.2.2 ∧ Dp K F vv dv ∧ f e.1 dv) ∧
      (∀ d, (atKey xs d).isSome = true → Sat K ⟨s.e, s.R.set o (OMk pr w f d)⟩ σ ρ T H) ∧ (∀ {x u}, Dp K F u x → Sat K s σ ρ ((IT.d x, some u) :: T) H) ∧
      ∀ d b u vv dv, KyD K F b d → RelV vv u → Dp K F vv dv → f d dv → Sat K ⟨s.e, s.R.set o (OMk pr w f d)⟩ σ ρ T (upd H p (DxO pr w p (storedH xs d b u))) := by
  obtain ⟨v', e2, ok, bk⟩ := g.obj ho
  have ev : v' = v := Option.some.inj (e2.symm.trans hv)
  subst ev
  obtain ⟨F, L, e1, g1⟩ := ok
  cases L with
  | nil => simp at e1
  | cons z L =>
    obtain ⟨z1, fp⟩ := z
    simp at e1
    obtain ⟨e3, e4⟩ := e1
    subst e3
    obtain ⟨u, e5, h0⟩ := g1.ent _ List.mem_cons_self
    have e5' : v' = u := Option.some.inj e5
    subst e5'
    obtain ⟨p, xs, h1, h2, h3, h4⟩ := hO _ _ _ _ _ h0
    have nd := g1.nd
    have ow := g1.own
    unfold fpsOf at nd ow
    rw [List.flatMap_cons] at nd ow
    obtain ⟨n1, n2, n3⟩ := List.nodup_append.mp nd
    have h2' : fp = [p] := h2
    subst h2'
    have fz : Fz K F (T ++ (ES s.e σ ++ (RS s.R ρ).set o (IT.un, some v'))) H := ⟨L, e4, g1.tail⟩
    refine ⟨F, p, xs, h1, h3, g1.ext, fun {x u} m => ?_, h4, fun d hd => bk H _ ⟨F, (((IT.o (OMk pr w f d), some v'), [p]) :: L), by rw [List.map_cons, e4], ?_⟩, fun {x u} hx => ?_, fun d b u vv dv hb hu hd hf => bk _ _ ⟨F, (((IT.o (OMk pr w f d), some v'), [p]) :: L), by rw [List.map_cons, e4], ?_⟩⟩
    · obtain ⟨u', e6, hd⟩ := fz.at (List.mem_append_left _ m)
      cases e6
      exact hd
    · exact g1.tail.oCons ⟨p, xs, h1, rfl, h3, hd, h4⟩ n1 (fun a ha hb => n3 a ha a hb rfl) fun a ha => ow a (List.mem_append_left _ ha)
    · have whole : Fz K F ((IT.o O, some v') :: (T ++ (ES s.e σ ++ (RS s.R ρ).set o (IT.un, some v')))) H := ⟨(((IT.o O, some v'), [p]) :: L), by rw [List.map_cons, e4], g1⟩
      have a1 := (whole.add hx).ok
      have a2 : OK K ((IT.o O, some v') :: (((IT.d x, some u) :: T) ++ (ES s.e σ ++ (RS s.R ρ).set o (IT.un, some v')))) H := a1.perm (List.Perm.swap _ _ _)
      have b := ZE.frz.back2 (T2 := (IT.d x, some u) :: T) g ho hv a2
      rw [set_self ho] at b
      exact b
    · refine g1.change (H' := upd H p (DxO pr w p (storedH xs d b u))) (Q := OMk pr w f d) ⟨p, _, h1, rfl, upd_same, storedH_has, fun e he => ?_⟩ (fun a o' ha e => ?_) fun a ha => ?_
      · rcases storedH_mem he with q | q | ⟨z, hz, q1, q2⟩
        · exact h4 e q
        · subst q
          exact ⟨hb, vv, dv, hu, hd, hf⟩
        · subst q2
          have := (h4 z hz).1
          rw [q1] at this
          exact ⟨this, vv, dv, hu, hd, hf⟩
      · rw [upd_ne (by simpa using ha)]; exact e
      · have e : a = p := by simpa using ha
        subst e
        exact ⟨_, upd_same⟩
variable {f : PyData → PyData → Prop} {o : Nat}
end
end Z

namespace Z
open PySem PySem.W PySem.SeqAt PyProof.Rows PySem.Calls

section
variable {prog : Program} {w : World} {A : Around} {E : Value → Shared → Prop} {s : Shared}
theorem call_tup_lt {Q : Value → Shared → Prop} {l b : Addr} {items items2 : Array Value} {e r : Nat → Bool} (hl : s.heap.IsTuple l items) (hb : s.heap.IsTuple b items2)
    (he : ∀ j (h1 : j < items.size) (h2 : j < items2.size), EqAt A.in1 s items[j] items2[j] (e j)) (hr : ∀ j (h1 : j < items.size) (h2 : j < items2.size), e j = false → RcLt A.in1 s items[j] items2[j] (r j))
    (h : Q (.bool (firstLt e r (decide (items.size < items2.size)) (List.range (min items.size items2.size)))) s) : wpAny (model prog w) A (call (.builtin "tuple.__lt__") [.ref l, .ref b]) Q E s := by
  obtain ⟨⟨cls, dd, data, sl⟩, ho, hc, n, hd⟩ := id hl
  obtain ⟨⟨cls2, dd2, data2, sl2⟩, ho2, hc2, n2, hd2⟩ := id hb
  simp only at hc hd hc2 hd2
  subst hc hd hc2 hd2
  exact call_meets F.slot_tuple_lt ⟨_, ho, rfl⟩ F.entry_tuple_lt (F.args_tuple_lt_2 _ _) (tuple_ltAt l b items items2 n n2 dd dd2 sl sl2 e r) ⟨ho, ho2, he, hr, h⟩
theorem oneLt_tups {xs ys : List PyData} {a b : Value} {as bs : List Addr} {Q : Bool → Shared → Prop} (ra : Reads s.heap a (.tuple xs) as) (rb : Reads s.heap b (.tuple ys) bs) (hal : alikeAll xs ys = true)
    (hu : A.units + min (PyData.tuple xs).depth (PyData.tuple ys).depth < cLine) (hq : Q (dataLt (.tuple xs) (.tuple ys)) s) : wpAny (model prog w) A (oneLt' true a b) Q E s := by
  cases ra with
  | @tuple l o vs n _ as₁ h1 h2 h3 h4 =>
    cases rb with
    | @tuple l' o' vs' n' _ bs₁ k1 k2 k3 k4 =>
      have n1 : vs.size = xs.length := by simpa using ReadsAll.length _ _ _ h4
      have n2 : vs'.size = ys.length := by simpa using ReadsAll.length _ _ _ k4
      rw [dataLt_tuple, ← firstLt_toks xs ys hal, ← n1, ← n2] at hq
      rw [oneLt'_eq]
      simp only [if_true]
      refine wpAny_bind (wpAny_cRoomFor (room_here hu) ?_)
      refine wpAny_bind (wpAny_callSpecialIfBound?_slot (T := "tuple") ⟨_, h1, h2⟩ F.slot_tuple_lt (call_tup_lt (e := pairEq xs ys) (r := fun j => dataLt (xs.getD j .none) (ys.getD j .none)) ⟨_, h1, h2, _, h3⟩ ⟨_, k1, k2, _, k3⟩ (fun j j1 j2 => ?_) (fun j j1 j2 hj => ?_) ?_))
      · have := eqAt_alikeAll xs ys A.in1 s vs.toList vs'.toList _ _ h4 k4 hal (room_in hu) j (by simpa using j1) (by simpa using j2)
        simpa using this
      · have := rcLt_alikeAll xs ys A.in1 s vs.toList vs'.toList _ _ h4 k4 hal (room_in hu) j (by simpa using j1) (by simpa using j2) hj
        simpa using this
      · exact wpAny_truthy_bool hq
theorem firsts_tups {M : Model} : ∀ {vs : List Value} {ds : List PyData} {Q : List (Option Value) → Shared → Prop}, EachIs (fun v d => ∃ as, Reads s.heap v d as) vs ds → (∀ d ∈ ds, ∃ xs, d = .tuple xs) →
    (∀ fs : List (Option Value), EachIs (fun f d => f.isSome = true ↔ d ≠ .tuple []) fs ds → Q fs s) → wpAny M A (vs.mapM firstOfTuple') Q E s
  | _, _, _, .nil, _, h => by rw [List.mapM_nil]; exact wpAny_pure (h [] .nil)
  | v :: vs, d :: ds, Q, .cons ⟨as, r⟩ t, ht, h => by
    obtain ⟨xs, rfl⟩ := ht d List.mem_cons_self
    cases r with
    | @tuple a o items n _ _ ho hc hd hr =>
      have hn : items.size = xs.length := by simpa using ReadsAll.length _ _ _ hr
      rw [List.mapM_cons]
      refine wpAny_bind ?_
      rw [kas_first_eq]
      refine wpAny_bind (Looks.here (show Looks M s.heap (typeOf (.ref a)) o.cls from (Looks.ld ho).andThen .now) ?_)
      rw [hc, if_neg (by first | decide | simp)]
      refine wpAny_bind (listItems_at ho hd (wpAny_pure ?_))
      refine wpAny_bind (firsts_tups (Q := fun bs s' => wpAny M A (pure (items[0]? :: bs)) Q E s') t (fun d hd => ht d (List.mem_cons_of_mem _ hd)) fun fs hf => wpAny_pure (h _ (.cons ?_ hf)))
      have : (items[0]?).isSome = true ↔ 0 < items.size := by simp
      rw [this, hn]
      cases xs <;> simp
def SrtK (ds : List PyData) : Prop := Sortable ds ∨ ∀ d ∈ ds, ∃ xs, d = .tuple xs
theorem SrtK.sub {ds ds' : List PyData} (h : SrtK ds) (k : ∀ d ∈ ds', d ∈ ds) : SrtK ds' := by
  rcases h with (z | z) | z
  · exact .inl (.inl fun d hd => z d (k d hd))
  · exact .inl (.inr fun d hd => z d (k d hd))
  · exact .inr fun d hd => z d (k d hd)
theorem EachIs.right {α β : Type} {R : α → β → Prop} : ∀ {as : List α} {bs : List β}, EachIs R as bs → ∀ b ∈ bs, ∃ a ∈ as, R a b
  | _, _, .nil, _, h => by cases h
  | _, _, .cons (a := a) r t, b, h => by
    rcases List.mem_cons.mp h with rfl | h
    · exact ⟨a, List.mem_cons_self, r⟩
    · obtain ⟨a', h1, h2⟩ := EachIs.right t b h
      exact ⟨a', List.mem_cons_of_mem _ h1, h2⟩
theorem sortsAt {vs : List Value} {ds : List PyData} (e : EachIs (fun v d => ∃ as, Reads s.heap v d as) vs ds) (hal : AllAlike ds) (hk : SrtK ds) (hu : ∀ d, d ∈ ds → A.units + d.depth < cLine) : SortsAt prog w A s (dataKind s.heap ds) vs := by
  rcases hk with hk | ht
  · exact SortsAt.data e hal hk hu
  by_cases hne : ∀ d ∈ ds, d ≠ .tuple []
  · refine SortsAt.data e hal (.inl fun d hd => ?_) hu
    obtain ⟨xs, rfl⟩ := ht d hd
    cases xs with
    | nil => exact (hne _ hd rfl).elim
    | cons x r => exact ⟨x, r, rfl⟩
  have room : ∀ {d d' : PyData}, d ∈ ds → A.units + min d.depth d'.depth < cLine := fun {d d'} hd => Nat.lt_of_le_of_lt (Nat.add_le_add_left (Nat.min_le_left _ _) _) (hu d hd)
  have keys : ∀ v, v ∈ vs → ∃ a, (dataKind s.heap ds).keyOf v = some a := fun v hv => by
    obtain ⟨d, hd, as, r⟩ := e.left v hv
    exact ⟨_, dataKind_some hal hd r⟩
  have hnone : ∀ {fs : List (Option Value)}, EachIs (fun f d => f.isSome = true ↔ d ≠ .tuple []) fs ds → ¬ (fs.toArray.all fun x => x.isSome) = true := fun {fs} hf ha => by
    refine hne fun d hd => ?_
    obtain ⟨f, h1, h2⟩ := EachIs.right hf d hd
    simp only [List.all_toArray, List.all_eq_true] at ha
    exact h2.mp (ha f h1)
  have lt : ∀ (E : Value → Shared → Prop) (x y : Value) (a b : (dataKind s.heap ds).α) {Q : Bool → Shared → Prop} (f : Bool), (dataKind s.heap ds).keyOf x = some a → (dataKind s.heap ds).keyOf y = some b → Q ((dataKind s.heap ds).blt a b) s → wpAny (model prog w) A (oneLt' f x y) Q E s := by
    intro E x y a b Q f ha hb hq
    obtain ⟨d, as, hd, ra, rfl⟩ := dataKind_inv ha
    obtain ⟨d', as', hd', rb, rfl⟩ := dataKind_inv hb
    have hdd := hal d hd d' hd'
    obtain ⟨xs, rfl⟩ := ht d hd
    obtain ⟨ys, rfl⟩ := ht d' hd'
    cases f with
    | true => exact oneLt_tups ra rb (by simpa [alike] using hdd) (room hd) hq
    | false => exact oneLt_alike (fun h => by cases h) ra rb hdd (by simp) (room hd) hq
  cases ds with
  | nil => exact (hne fun d hd => by cases hd).elim
  | cons d₀ ds₀ =>
    by_cases h0 : d₀ = .tuple []
    · refine ⟨keys, oneType', fun E x y a b Q ha hb hq => ?_, fun h2 E Q hq => ?_⟩
      · rw [keyLt'_oneType]
        exact lt E x y a b true ha hb hq
      · rw [keyKind'_eq, List.mapM_toArray, map_eq_pure_bind]
        refine wpAny_bind (wpAny_bind (firsts_tups e ht fun fs hf => wpAny_pure ?_))
        rw [if_neg (hnone hf)]
        cases hf with
        | @cons f _ fr _ hf0 hfr =>
          have hf0' : f.isSome = false := by
            cases hs : f.isSome with
            | false => rfl
            | true => exact (hf0.mp hs h0).elim
          rw [if_neg (by cases f with
            | none => simp
            | some v => simp at hf0')]
          rw [oneTypeOnly'_eq, List.mapM_toArray, map_eq_pure_bind]
          refine wpAny_bind (wpAny_bind (wpAny_bind (kas_mapM (r := Value.type "tuple") _ (fun v hv Q' hq => ?_) (wpAny_pure ?_))))
          · obtain ⟨d, hd, as, r⟩ := e.left v hv
            obtain ⟨xs, rfl⟩ := ht d hd
            exact Looks.here (looks_reads r) hq
          · cases vs with
            | nil => cases e
            | cons v₁ vr =>
              have hall : ((List.map (fun _ => Value.type "tuple") (v₁ :: vr)).toArray.all fun x => x == Value.type "tuple") = true := by
                simp only [List.all_toArray, List.all_map, List.all_eq_true]
                intro _ _
                exact beq_self_eq_true _
              have h1 : (List.map (fun _ => Value.type "tuple") (v₁ :: vr)).toArray[0]? = some (Value.type "tuple") := by simp
              rw [h1]
              simp only [hall, if_true]
              exact wpAny_pure (wpAny_pure hq)
    · refine ⟨keys, general', fun E x y a b Q ha hb hq => ?_, fun h2 E Q hq => ?_⟩
      · exact lt E x y a b false ha hb hq
      · rw [keyKind'_eq, List.mapM_toArray, map_eq_pure_bind]
        refine wpAny_bind (wpAny_bind (firsts_tups e ht fun fs hf => wpAny_pure ?_))
        rw [if_neg (hnone hf)]
        cases hf with
        | @cons f _ fr _ hf0 hfr =>
          have hf0' : f.isSome = true := hf0.mpr h0
          rw [if_pos (by cases f with
            | none => simp at hf0'
            | some v => simp)]
          exact wpAny_pure hq
end
section
variable {β : Type} {prog : Program} {w : World} {A : Around} {E : Value → Shared → Prop} {s : Shared} {vs : List Value} {bs : List β} {R : Value → β → Prop} {enc : β → PyData}
theorem sortedX {l : Addr} {Q : Value → Shared → Prop} (hl : s.heap.IsList l vs.toArray) (e : EachIs R vs bs) (er : EachIs (fun v b => ∃ as, Reads s.heap v (enc b) as) vs bs) (hal : AllAlike (bs.map enc)) (hk : SrtK (bs.map enc)) (hL : bs.length ≤ sizeLine)
    (hu : ∀ b, b ∈ bs → A.units + 2 + (enc b).depth < cLine) (h : ∀ out, out.length = bs.length → EachIs R out (bs.mergeSort (dataLe false enc)) → Q (.ref (s.heap.objs.size + 1)) { s with heap := sortedAll s.heap vs (List.toArray out) }) :
    wpAny (model prog w) A (call (.builtin "sorted") [.ref l]) Q E s := by
  have er' : EachIs (fun v b => ∃ as, Reads (sortingHeap (copyHeap s.heap vs) (s.heap.objs.size + 1) vs) v (enc b) as) vs bs := er.mono fun _ _ ⟨as, r⟩ => ⟨as, PyProof.Rows.Reads.keeps (fun _ _ => sorting_copy_old) r⟩
  exact sorted_vals hl (sortsAt (s := { s with heap := sortingHeap (copyHeap s.heap vs) (s.heap.objs.size + 1) vs }) (each_map (R := fun v d => ∃ as, Reads (sortingHeap (copyHeap s.heap vs) (s.heap.objs.size + 1) vs) v d as) enc er') hal hk (bound_map hu)) (by rw [e.length]; exact hL)
    (h _ (by rw [sortVals_length false rfl]; exact e.length) (sortVals_data false e er' hal))
theorem listSortX {a : Addr} {n : Nat} {Q : Value → Shared → Prop} (ho : s.heap.get? a = some (seqObj "list" vs.toArray n)) (e : EachIs R vs bs) (er : EachIs (fun v b => ∃ as, Reads s.heap v (enc b) as ∧ a ∉ as) vs bs) (hal : AllAlike (bs.map enc)) (hk : SrtK (bs.map enc)) (hL : bs.length ≤ sizeLine)
    (hu : ∀ b, b ∈ bs → A.units + 1 + (enc b).depth < cLine) (h : ∀ out, out.length = bs.length → EachIs R out (bs.mergeSort (dataLe false enc)) → Q .none { s with heap := sortedHeap s.heap a vs (List.toArray out) }) :
    wpAny (model prog w) A (call (.builtin "list.sort") [.ref a]) Q E s := by
  have er' : EachIs (fun v b => ∃ as, Reads (sortingHeap s.heap a vs) v (enc b) as) vs bs := each_keepBut (h' := sortingHeap s.heap a vs) (fun _ _ hb q => sortingHeap_old hb q) (fun o q => by rw [ho] at q; rw [← Option.some.inj q]) hal er
  refine wpAny_call_entry slot_list_sort ⟨_, ho, rfl⟩ entry_list_sort (list_sort_vals (κ := dataKind (sortingHeap s.heap a vs) (bs.map enc)) ho (sortsAt (s := { s with heap := sortingHeap s.heap a vs }) (each_map (R := fun v d => ∃ as, Reads (sortingHeap s.heap a vs) v d as) enc er') hal hk (bound_map hu)) (by rw [e.length]; exact hL) ⟨.none, rfl, ?_⟩) (args_list_sort _)
  exact h _ (by rw [sortVals_length false rfl]; exact e.length) (sortVals_data false e er' hal)
end
end Z

namespace Z
open PySem L2 PyProof.Rows

def tyN : PyData → String
  | .none => "NoneType"
  | .bool _ => "bool"
  | .int _ => "int"
  | .str _ => "str"
  | .list _ => "list"
  | .tuple _ => "tuple"
  | .dict _ => "dict"
theorem sqL_ty {K : PySem.W.Frag} {H : Hp} {a : Addr} {xs : List V} (h : SqL K H a xs) : TyX K H (.ref a) (.type "list") := by
  rcases h with (h | ⟨o, h⟩) | ⟨o, its, n, hk, hc, _⟩
  · exact .base (.lst h)
  · exact .base (.frz h)
  · exact .kList hk hc
theorem sqT_ty {K : PySem.W.Frag} {H : Hp} {a : Addr} {xs : List V} (h : SqT K H a xs) : TyX K H (.ref a) (.type "tuple") := by
  rcases h with (h | ⟨o, h⟩) | ⟨o, its, n, hk, hc, _⟩
  · exact .base (.tup h)
  · exact .fTuple h
  · exact .kTuple hk hc
theorem dp_ty {K : PySem.W.Frag} {H : Hp} {v : V} {x : PyData} (h : Dp K H v x) : TyX K H v (.type (tyN x)) := by
  cases h with
  | non => exact .base .non
  | bl b => exact .base (.bl b)
  | int i => exact .base (.int i)
  | str y => exact .base (.str y)
  | lst hs ha => exact sqL_ty hs
  | tup hs ha => exact sqT_ty hs
section
variable {X : Cx} {e a b c : Expr} {es : List Expr} {s s' s1 s2 s3 : S} {r r1 r2 : SD} {rs : List SD} {pos p q : Pos} {k : Bool} {x y z : PyData} {ds : List PyData} {T : Str} {n : String}
def isTup : PyData → Bool | .tuple _ => true | _ => false
def isLst : PyData → Bool | .list _ => true | _ => false
def isBl : PyData → Bool | .bool _ => true | _ => false
def isInt : PyData → Bool | .bool _ => true | .int _ => true | _ => false
def isStr : PyData → Bool | .str _ => true | _ => false
theorem kit_tup (x : PyData) : kitB (tyN x) "tuple" = some (isTup x) := by
  have h : kitB "NoneType" "tuple" = some (isTup .none) ∧ kitB "bool" "tuple" = some (isTup (.bool true)) ∧ kitB "int" "tuple" = some (isTup (.int 0)) ∧ kitB "str" "tuple" = some (isTup (.str (Str.ofString ""))) ∧ kitB "list" "tuple" = some (isTup (.list [])) ∧ kitB "tuple" "tuple" = some (isTup (.tuple [])) ∧ kitB "dict" "tuple" = some (isTup (.dict [])) := by decide +kernel
  obtain ⟨h1, h2, h3, h4, h5, h6, h7⟩ := h
  cases x <;> first | exact h1 | exact h2 | exact h3 | exact h4 | exact h5 | exact h6 | exact h7
theorem kit_lst (x : PyData) : kitB (tyN x) "list" = some (isLst x) := by
  have h : kitB "NoneType" "list" = some (isLst .none) ∧ kitB "bool" "list" = some (isLst (.bool true)) ∧ kitB "int" "list" = some (isLst (.int 0)) ∧ kitB "str" "list" = some (isLst (.str (Str.ofString ""))) ∧ kitB "list" "list" = some (isLst (.list [])) ∧ kitB "tuple" "list" = some (isLst (.tuple [])) ∧ kitB "dict" "list" = some (isLst (.dict [])) := by decide +kernel
  obtain ⟨h1, h2, h3, h4, h5, h6, h7⟩ := h
  cases x <;> first | exact h1 | exact h2 | exact h3 | exact h4 | exact h5 | exact h6 | exact h7
theorem kit_bl (x : PyData) : kitB (tyN x) "bool" = some (isBl x) := by
  have h : kitB "NoneType" "bool" = some (isBl .none) ∧ kitB "bool" "bool" = some (isBl (.bool true)) ∧ kitB "int" "bool" = some (isBl (.int 0)) ∧ kitB "str" "bool" = some (isBl (.str (Str.ofString ""))) ∧ kitB "list" "bool" = some (isBl (.list [])) ∧ kitB "tuple" "bool" = some (isBl (.tuple [])) ∧ kitB "dict" "bool" = some (isBl (.dict [])) := by decide +kernel
  obtain ⟨h1, h2, h3, h4, h5, h6, h7⟩ := h
  cases x <;> first | exact h1 | exact h2 | exact h3 | exact h4 | exact h5 | exact h6 | exact h7
theorem kit_int (x : PyData) : kitB (tyN x) "int" = some (isInt x) := by
  have h : kitB "NoneType" "int" = some (isInt .none) ∧ kitB "bool" "int" = some (isInt (.bool true)) ∧ kitB "int" "int" = some (isInt (.int 0)) ∧ kitB "str" "int" = some (isInt (.str (Str.ofString ""))) ∧ kitB "list" "int" = some (isInt (.list [])) ∧ kitB "tuple" "int" = some (isInt (.tuple [])) ∧ kitB "dict" "int" = some (isInt (.dict [])) := by decide +kernel
  obtain ⟨h1, h2, h3, h4, h5, h6, h7⟩ := h
  cases x <;> first | exact h1 | exact h2 | exact h3 | exact h4 | exact h5 | exact h6 | exact h7
theorem kit_str (x : PyData) : kitB (tyN x) "str" = some (isStr x) := by
  have h : kitB "NoneType" "str" = some (isStr .none) ∧ kitB "bool" "str" = some (isStr (.bool true)) ∧ kitB "int" "str" = some (isStr (.int 0)) ∧ kitB "str" "str" = some (isStr (.str (Str.ofString ""))) ∧ kitB "list" "str" = some (isStr (.list [])) ∧ kitB "tuple" "str" = some (isStr (.tuple [])) ∧ kitB "dict" "str" = some (isStr (.dict [])) := by decide +kernel
  obtain ⟨h1, h2, h3, h4, h5, h6, h7⟩ := h
  cases x <;> first | exact h1 | exact h2 | exact h3 | exact h4 | exact h5 | exact h6 | exact h7

def rInZ (K : PySem.W.Frag) (u : Nat) (neg : Bool) : R2 := fun x y H Q => ∃ d c ds, Dp K H x d ∧ Dp K H y c ∧ (c = .list ds ∨ c = .tuple ds) ∧ PyData.plainAll ds = true ∧ d.plain = true ∧ u + 1 + min (PyData.depthAll ds) d.depth < cLine ∧ Q (.bl (if neg then !(ds.any fun z => PyData.eqv z d) else ds.any fun z => PyData.eqv z d)) H
theorem op_inZ : OpR X (compareOp .In) (rInZ X.K X.A.units false) := by
  intro pins s σ H x y v u Q I rx ry h
  obtain ⟨d, c, ds, hd, hc, e, p1, p2, hu, q⟩ := h
  obtain ⟨as, r1⟩ := Dp.reads I d x v hd rx
  obtain ⟨bs, r2⟩ := Dp.reads I c y u hc ry
  rcases e with e | e
  · subst e
    exact SeqAt.in_list_data r2 r1 p1 p2 hu ⟨.bl _, H, I, rfl, q⟩
  · subst e
    exact SeqAt.in_tuple_data r2 r1 p1 p2 hu ⟨.bl _, H, I, rfl, q⟩
theorem op_ninZ : OpR X (compareOp .NotIn) (rInZ X.K X.A.units true) := by
  intro pins s σ H x y v u Q I rx ry h
  obtain ⟨d, c, ds, hd, hc, e, p1, p2, hu, q⟩ := h
  obtain ⟨as, r1⟩ := Dp.reads I d x v hd rx
  obtain ⟨bs, r2⟩ := Dp.reads I c y u hc ry
  rcases e with e | e
  · subst e
    exact SeqAt.notIn_list_data r2 r1 p1 p2 hu ⟨.bl _, H, I, rfl, q⟩
  · subst e
    exact SeqAt.notIn_tuple_data r2 r1 p1 p2 hu ⟨.bl _, H, I, rfl, q⟩
def rEqZ (K : PySem.W.Frag) (u : Nat) (neg : Bool) : R2 := fun x y H Q => ∃ d c, Dp K H x d ∧ Dp K H y c ∧ d.plain = true ∧ c.plain = true ∧ u + min d.depth c.depth < cLine ∧ Q (.bl (if neg then !PyData.eqv d c else PyData.eqv d c)) H
theorem op_eqZ : OpR X (compareOp .Eq) (rEqZ X.K X.A.units false) := by
  intro pins s σ H x y v u Q I rx ry h
  obtain ⟨d, c, hd, hc, p1, p2, hu, q⟩ := h
  obtain ⟨as, r1⟩ := Dp.reads I d x v hd rx
  obtain ⟨bs, r2⟩ := Dp.reads I c y u hc ry
  exact SeqAt.eq_plain r1 r2 p1 p2 hu ⟨.bl _, H, I, rfl, q⟩
theorem op_neZ : OpR X (compareOp .NotEq) (rEqZ X.K X.A.units true) := by
  intro pins s σ H x y v u Q I rx ry h
  obtain ⟨d, c, hd, hc, p1, p2, hu, q⟩ := h
  obtain ⟨as, r1⟩ := Dp.reads I d x v hd rx
  obtain ⟨bs, r2⟩ := Dp.reads I c y u hc ry
  exact SeqAt.ne_plain r1 r2 p1 p2 hu ⟨.bl _, H, I, rfl, q⟩
def srt (ds : List PyData) : List PyData := ds.mergeSort (PySem.W.dataLe false id)
def rSrt (K : PySem.W.Frag) (u : Nat) : List V → Hp → VK → Prop := fun vs H Q => ∃ a F xs ds, vs = [V.ref a] ∧ SqL K H a xs ∧ Ext F H ∧ DpAll K F xs ds ∧ PySem.W.AllAlike ds ∧ SrtK ds ∧ (∀ d ∈ ds, u + 2 + d.depth < cLine) ∧
  ∀ p ys, H p = none → DpAll K F ys (srt ds) → Q (.ref p) (upd H p (.lst ys))
theorem dps_zip {K : PySem.W.Frag} {F : Hp} : ∀ {xs : List V} {ds : List PyData}, DpAll K F xs ds → ∀ z ∈ xs.zip ds, Dp K F z.1 z.2
  | _, _, .nil, z, h => by cases h
  | _, _, .cons h1 h2, z, h => by
    rcases List.mem_cons.mp h with e | h
    · subst e; exact h1
    · exact dps_zip h2 z h
theorem dps_of_zip {K : PySem.W.Frag} {F : Hp} : ∀ {zs : List (V × PyData)}, (∀ z ∈ zs, Dp K F z.1 z.2) → DpAll K F (zs.map (·.1)) (zs.map (·.2))
  | [], _ => .nil
  | z :: zs, h => .cons (h z List.mem_cons_self) (dps_of_zip fun y hy => h y (List.mem_cons_of_mem _ hy))
theorem vals_zip : ∀ {xs : List V} {us : List Value} {ds : List PyData}, xs.length = ds.length → Vals xs us → PySem.W.EachIs (fun u (z : V × PyData) => RelV z.1 u) us (xs.zip ds)
  | _, _, [], h, .nil => .nil
  | _, _, _ :: _, h, .nil => by cases h
  | _, _, [], h, .cons _ _ => by cases h
  | _, _, d :: ds, h, .cons r t => .cons r (vals_zip (Nat.succ.inj h) t)
theorem zip_vals : ∀ {us : List Value} {zs : List (V × PyData)}, PySem.W.EachIs (fun u (z : V × PyData) => RelV z.1 u) us zs → Vals (zs.map (·.1)) us
  | _, _, .nil => .nil
  | _, _, .cons r t => .cons r (zip_vals t)
theorem snd_zip {α β : Type} : ∀ {xs : List α} {ys : List β}, xs.length = ys.length → (xs.zip ys).map (·.2) = ys
  | [], [], _ => rfl
  | _ :: _, [], h => by cases h
  | [], _ :: _, h => by cases h
  | x :: xs, y :: ys, h => by
    rw [List.zip_cons_cons, List.map_cons, snd_zip (Nat.succ.inj h)]
theorem each_imp {α β : Type} {R R' : α → β → Prop} : ∀ {as : List α} {bs : List β}, PySem.W.EachIs R as bs → (∀ a b, b ∈ bs → R a b → R' a b) → PySem.W.EachIs R' as bs
  | _, _, .nil, _ => .nil
  | _, _, .cons h t, k => .cons (k _ _ List.mem_cons_self h) (each_imp t fun a b hb => k a b (List.mem_cons_of_mem _ hb))
theorem cr_srt : CallR X (.builtin "sorted") (rSrt X.K X.A.units) := by
  intro pins s σ H vs us Q I r h
  obtain ⟨a, F, xs, ds, rfl, hs, hF, hd, al, so, hu, q⟩ := h
  obtain ⟨its, rv, hl, hz⟩ := I.list hs
  rw [Vals.ref1 r]
  have hlen := dpsLen hd
  have e := vals_zip (ds := ds) hlen rv
  have hsnd : (xs.zip ds).map (fun z => z.2) = ds := snd_zip hlen
  have er : PySem.W.EachIs (fun u (z : V × PyData) => ∃ as, Reads s.heap u z.2 as) its (xs.zip ds) := each_imp e fun u z hm hr => Dp.reads I z.2 z.1 u (dpUp hF _ _ (dps_zip hd z hm)) hr
  refine sortedX (R := fun u (z : V × PyData) => RelV z.1 u) (enc := fun z : V × PyData => z.2) hl.isList e er (by rw [hsnd]; exact al) (by rw [hsnd]; exact so) ?_ (fun z hm => ?_) fun out ho eo => ?_
  · have h1 := congrArg List.length hsnd
    rw [List.length_map] at h1
    omega
  · exact hu _ (by rw [← hsnd]; exact List.mem_map.mpr ⟨z, hm, rfl⟩)
  · obtain ⟨ep, he'⟩ := PyProof.Rows.sortedAll_at s.heap its out.toArray
    have hl2 : (((xs.zip ds).mergeSort (PySem.W.dataLe false fun z => z.2)).map (·.1)).length ≤ sizeLine := by
      have h1 := congrArg List.length hsnd
      rw [List.length_map] at h1
      rw [List.length_map, List.length_mergeSort]
      omega
    refine ⟨.ref _, upd H (s.heap.objs.size + 1) (.lst (((xs.zip ds).mergeSort (PySem.W.dataLe false fun z => z.2)).map (·.1))), I.laid (t' := s.toks) (fun _ _ => PyProof.Rows.sortedAll_old) (Nat.le_succ _) ⟨hl2, out, ep, zip_vals eo, he'⟩, rfl, q _ _ (I.hok.fresh (Nat.le_succ _)) ?_⟩
    have h2 : srt ds = ((xs.zip ds).mergeSort (PySem.W.dataLe false fun z => z.2)).map (·.2) := by
      have h3 := List.map_mergeSort (r := PySem.W.dataLe false fun z : V × PyData => z.2) (s := PySem.W.dataLe false id) (f := fun z : V × PyData => z.2) (l := xs.zip ds) (fun _ _ _ _ => rfl)
      rw [hsnd] at h3
      exact h3.symm
    rw [h2]
    exact dps_of_zip fun z hm => dps_zip hd z ((List.mergeSort_perm _ _).mem_iff.mp hm)
theorem srt_perm (ds : List PyData) : (srt ds).Perm ds := List.mergeSort_perm _ _
end
end Z

namespace Z
open PySem L2 PyProof.Rows

section
variable {X : Cx} {e a b c : Expr} {es : List Expr} {st : Stmt} {rest body : List Stmt} {s s' s1 s2 s3 : S} {r : SD} {rs : List SD} {pos p : Pos} {P : Po} {x y : PyData} {i j : Int} {o n : Nat} {O O' : Own}
structure Bx where
  cells : List Int
  x : Int
  y : Int
end
end Z

namespace Z
open PySem L2 PyProof.Rows
def finB (cells : List Int) (x y : Int) : Int × Bx :=
  let first := (y * 48271 + 17) % 2147483629
  let second := (first * 69621 + 5) % 2147483587
  let z := (second * 40692 + 3) % 2147483563
  (first * 4611686014132420609 + second * 2147483647 + z, ⟨cells, x, z⟩)
def cellB (c : Int) : Int := if decide (0 ≤ c) = true then 2 * c else -2 * c - 1
def loadB (b : Bx) : Int × Bx := match b.cells with
  | c :: r => if decide (1000000000000000000 ≤ cellB c) = true then (cellB c, ⟨r, b.x, b.y⟩) else finB r b.x ((b.y * 69621 + cellB c * 48271 + 11) % 2147483647)
  | [] => finB [] b.x b.y
def drawB (b : Bx) (m : Int) : Int × Bx :=
  let b' : Bx := if b.x < m then ⟨(loadB b).2.cells, (loadB b).1, (loadB b).2.y⟩ else b
  (b'.x % m, ⟨b'.cells, b'.x / m, b'.y⟩)
structure BOK (b : Bx) : Prop where
  x : 0 ≤ b.x
  y : 0 ≤ b.y ∧ b.y < 2 ^ 31
  l : b.cells.length ≤ 63
theorem cell_pos (c : Int) : 0 ≤ cellB c := by unfold cellB; split <;> simp_all <;> omega
theorem fin_ok {cells : List Int} {x y : Int} (hx : 0 ≤ x) (hy : 0 ≤ y) (hl : cells.length ≤ 63) : 0 ≤ (finB cells x y).1 ∧ BOK (finB cells x y).2 := by
  unfold finB
  dsimp only
  generalize h1 : (y * 48271 + 17) % 2147483629 = f
  generalize h2 : (f * 69621 + 5) % 2147483587 = g
  generalize h3 : (g * 40692 + 3) % 2147483563 = z
  have z1 : 0 ≤ z := by omega
  have z2 : z < 2 ^ 31 := by omega
  exact ⟨by omega, hx, ⟨z1, z2⟩, hl⟩
theorem load_ok {b : Bx} (h : BOK b) : 0 ≤ (loadB b).1 ∧ BOK (loadB b).2 := by
  obtain ⟨hx, ⟨y1, y2⟩, hl⟩ := h
  unfold loadB
  cases hc : b.cells with
  | nil => exact fin_ok hx y1 (by simp)
  | cons c r =>
    rw [hc] at hl
    simp at hl
    have hp := cell_pos c
    dsimp only
    split
    · exact ⟨hp, hx, ⟨y1, y2⟩, by show r.length ≤ 63; omega⟩
    · exact fin_ok hx (by omega) (by omega)
theorem draw_ok {b : Bx} {m : Int} (h : BOK b) (hm : 0 < m) : (0 ≤ (drawB b m).1 ∧ (drawB b m).1 < m) ∧ BOK (drawB b m).2 := by
  unfold drawB
  dsimp only
  refine ⟨⟨Int.emod_nonneg _ (by omega), Int.emod_lt_of_pos _ hm⟩, ?_⟩
  split
  · obtain ⟨h1, h2⟩ := load_ok h
    exact ⟨Int.ediv_nonneg h1 (by omega), h2.y, h2.l⟩
  · exact ⟨Int.ediv_nonneg h.x (by omega), h.y, h.l⟩
end Z

namespace Z
open PySem L2 PyProof.Rows
section
variable {X : Cx} {e a b c : Expr} {es : List Expr} {s s1 s2 s3 : S} {r : SD} {rs : List SD} {pos p : Pos} {x : Str} {k j n : Nat} {pre : Pre} {rel : Rel} {ds as bs : List PyData} {zd : PyData} {O : Own}
end
end Z

namespace Z
open PySem L2 PyProof.Rows
section
variable {X : Cx} {tg iter elt : Expr} {ifs : List Expr} {s s1 : S} {ds : List PyData} {pos : Pos}
end

mutual
def same : PyData → PyData → Bool
  | .tuple xs, .tuple ys => xs.length == ys.length && sames xs ys
  | .list xs, .list ys => xs.length == ys.length && sames xs ys
  | .bool a, .bool b => a == b
  | .int a, .int b => a == b
  | .str a, .str b => a == b
  | .none, .none => true
  | _, _ => false
def sames : List PyData → List PyData → Bool
  | x :: xs, y :: ys => same x y && sames xs ys
  | _, _ => true
end
end Z

namespace Z
open PySem L2 PyProof.Rows
section
variable {X : Cx} {e a b c tg iter elt : Expr} {es ifs : List Expr} {st : Stmt} {rest body : List Stmt} {s s' s1 s2 s3 : S} {r r1 r2 r3 : SD} {rs : List SD} {pos p : Pos} {P : Po} {ds : List PyData}
theorem vrs3 {ρ : List V} {us : List V} (h : VRs [r1, r2, r3] ρ us) : ∃ u v w, us = [u, v, w] ∧ VR r1 ρ u ∧ VR r2 ρ v ∧ VR r3 ρ w := by
  obtain ⟨h1, h2⟩ := h
  match us, h1 with
  | [u, v, w], _ => exact ⟨u, v, w, rfl, h2 0 _ u rfl rfl, h2 1 _ v rfl rfl, h2 2 _ w rfl rfl⟩
end
end Z

namespace HT
open PySem PySem.Spec PyProof.Rows
section
variable {prog : Program} {w : World} {A : Around} {E : Value → Shared → Prop} {s : Shared}
end
end HT
namespace Z
open PySem L2 PyProof.Rows
section
variable {X : Cx} {a : Expr} {s s1 : S} {r : SD} {ds : List PyData}
variable {b : Expr} {s2 : S} {i j : Int} {pos : Pos}
end
end Z

namespace Z
open PySem L2 PyProof.Rows
theorem roomS {A : Around} {d : PyData} (hu : A.units + 64 < cLine) (h : d.depth ≤ 60) : A.units + 2 + d.depth < cLine := by omega
section
variable {X : Cx} {x1 x2 e : Expr} {s s1 s' : S} {p pos : Pos} {o k j : Nat} {b b' : Bx} {m d : Int} {kk kk' : Bool}
theorem ZE.i {i i' : Int} (h : ZE X e s (.d (.int i)) s') (q : i = i') : ZE X e s (.d (.int i')) s' := by subst q; exact h
theorem ZE.x {i i' : PyData} (h : ZE X e s (.d i) s') (q : i = i') : ZE X e s (.d i') s' := by subst q; exact h
end
end Z

namespace Z
open PySem L2 PyProof.Rows
section
variable {P : Program} {w : World} {K : PySem.W.Frag} {mg : Str → Option Value} {base : Heap} {x : Str} {st : Stmt} {ps N : List Str} {k : Nat}
theorem fn_dfn {f : Addr} {od an : Option Addr} {sl : Array (Option Value)} {oc kV dc pm cd ct : Value} {h : Heap} (X : K.In h) (G : h.Ns PySem.mainGlobals mg)
    (a : PySem.W.nsIn K PySem.mainGlobals x = some (some (.ref f))) (l : K.lookup f = some ⟨oc, od, .func (PySem.W.fnOf x x (defArgs st) (defBody st) (defScope st) .none kV dc pm an cd ct), sl⟩) (c : PySem.W.codeIn K cd x = true) (q : PySem.W.keepIn K (.ref f) = true)
    (b : ∀ (kV doc pm : Value) (an : Option Addr) (cdv ct : Value) (us : List Value), us.length = ps.length → bindArgs (PySem.W.fnOf x x (defArgs st) (defBody st) (defScope st) .none kV doc pm an cdv ct) ⟨us, []⟩ = pure (ps.zip us)) : Dfn K mg x st ps := by
  have F := fun_mk (st := st) l c q
  exact ⟨f, _, F, PySem.W.mg_of X G a, F.binds b⟩
theorem bl_of {F H : Hp} {v : V} {T : List En} {b : Bool} (h : OK K ((IT.d (.bool b), some v) :: T) H) : v = .bl b := by
  obtain ⟨F, f⟩ := h.fz
  obtain ⟨u, e, d⟩ := f.at List.mem_cons_self
  cases e
  cases d
  rfl
def aSc0 : List Int → List IT := fun ns => [.d (.list (ns.map .int))]
theorem dps_of_ints (K : PySem.W.Frag) (F : Hp) : ∀ ns : List Int, DpAll K F (ns.map V.int) (ns.map .int)
  | [] => .nil
  | n :: ns => .cons (.int n) (dps_of_ints K F ns)
/-- the law's head -/
def spL (K : PySem.W.Frag) : Sp := spZ K (preOf aSc0 (fun ns => ns.length ≤ 63)) (relOf aSc0 (fun ns => ns.length ≤ 63) (fun _ => .d (.bool true)) (fun _ => []))
theorem head_ok {H : Hp} {a : Addr} {ns : List Int} (hl : ns.length ≤ 63) (hS : SqL K H a (ns.map V.int)) : spL K [.ref a] H (fun v _ => v = .bl true) fun _ _ _ => False := by
  refine ⟨aSc0 ns, [], ⟨ns, hl, rfl⟩, rfl, ⟨H, [((.d (.list (ns.map .int)), some (.ref a)), [])], rfl, Ext.refl H, fun x hx => ?_, by simp [fpsOf], fun b hb => by simp [fpsOf] at hb⟩, fun z Os v H' hz ok => ?_⟩
  · have e : x = ((.d (.list (ns.map .int)), some (.ref a)), []) := by simpa using hx
    subst e
    exact ⟨rfl, _, rfl, .lst hS (dps_of_ints K H ns)⟩
  · obtain ⟨e, _⟩ := hz ns hl rfl
    subst e
    exact bl_of (F := H) ok
/-- a law by its Cal -/
theorem law_fn {f : Addr} {fd : FuncData} (F : Fun K x x st f fd) (hm : mg x = some (.ref f)) (S : FnScope N ["script"] (defScope st))
    (body : ∀ (f : Addr) (cdv : Value) (Ar : Around) (outer : List Env) (s : Shared) (H : Hp) (E : XK) (ns : List Int), ns.length ≤ 63 → Room k (Ar.deeper (envOfC x (defScope st) s.heap.objs.size f cdv)) →
      ZSs (cxOf CX0 P w K mg base N x (defScope st) f cdv Ar outer s H E).nox (defBody st) (inSt (aSc0 ns) (N.length - 1)) (poS 0 (.d (.bool true)) [])) : FnOk P w K mg base CX0 (k + 1) f fd ["script"] (spL K) := by
  refine F.ok S (fun vs H Q E h => ?_) (fun cdv A outer s H vs Q E hr h => ?_)
  · obtain ⟨ds, T, ⟨ns, _, e⟩, b, _⟩ := h
    subst e
    rw [← b]
    rfl
  · obtain ⟨ds, T, ⟨ns, hn, e⟩, b, c, d⟩ := h
    subst e
    refine run_body (X := (cxOf CX0 P w K mg base N x (defScope st) f cdv A outer s H E).nox) (N := N) rfl b c d ?_
    have e : vs.length = 1 := by rw [← b]; rfl
    rw [e]
    refine PSs.wk (body f cdv A outer s H E ns hn hr) rfl (fun t ⟨h1, h2⟩ => ?_) (fun r t h => ?_) (fun _ z => z) (fun _ z => z)
    · cases h1
    · cases r with
      | un => exact h
      | d v =>
        obtain ⟨h1, h2⟩ := h
        intro z hz e
        exact ⟨h1.symm, h2⟩
      | r j =>
        obtain ⟨hb, h, h2⟩ := h
        rcases h with ⟨O, hO, h1⟩ | ⟨es, hO, h1⟩ <;> cases h1
end
end Z

namespace Z
open PySem L2 PyProof.Rows

section
variable {P : Program} {w : World}
/-- a key of a set, as it stands -/
def KH (h : Heap) (a : Addr) (d : PyData) : Prop := isAt h d (.ref a) ∧ dep d ≤ 8
theorem KH.one {h : Heap} {a : Addr} {d e : PyData} (x : KH h a d) (y : KH h a e) : d = e := isAt_inj x.1 y.1
theorem KH.old {h h' : Heap} {a : Addr} {d : PyData} (x : KH h a d) (k : ∀ c u, h.get? c = some u → h'.get? c = some u) : KH h' a d := ⟨isAt_keep (fun c o _ _ e _ => k c o e) x.1, x.2⟩
theorem KH.but {h h' : Heap} {a c : Addr} {d : PyData} {o : Obj} {es : Array (Int × Value)} {ep : Nat} {t : SetTable} (x : KH h a d) (ho : h.get? c = some o) (hd : o.data = .set es ep t) (sb : Heap.SameBut c h h') : KH h' a d :=
  ⟨isAt_keep (fun b u its n e1 e2 => by
    by_cases eb : b = c
    · subst eb
      rw [ho] at e1
      cases e1
      rw [hd] at e2
      cases e2
    · exact (sb.2 b eb).trans e1) x.1, x.2⟩
abbrev SEn := Addr × PyData
def rowsD (w : World) (L : List SEn) : List (Int × Value) := L.map fun p => (hashD w p.2, Value.ref p.1)
def hsD (w : World) (L : List SEn) : List Int := L.map fun p => hashD w p.2
structure SR (w : World) (h : Heap) (a : Addr) (L : List SEn) (es : Array (Int × Value)) (ep : Nat) (t : SetTable) : Prop where
  ob : ∃ o, h.get? a = some o ∧ o.ExactSet ∧ o.data = .set es ep t
  rows : es.toList = rowsD w L
  tab : TabOk t (hsD w L)
  nd : (L.map (·.2)).Nodup
  keys : ∀ p ∈ L, KH h p.1 p.2
  led : w.params.followText "set-order" = true ∨ t.led = true
  room : L.length * 5 < t.mask * 3
  few : L.length < 64
section
variable {A : Around} {E : Value → Shared → Prop} {s : Shared} {a : Addr} {L : List SEn} {es : Array (Int × Value)} {ep : Nat} {t : SetTable}
theorem SR.at (R : SR w s.heap a L es ep t) {i : Nat} {p : SEn} (h : L[i]? = some p) : es[i]? = some (hashD w p.2, Value.ref p.1) := by
  rw [← Array.getElem?_toList, R.rows]
  simp [rowsD, h]
end
end
end Z

namespace Z
open PySem L2 PyProof.Rows

/-- what the first i give -/
def Gt (ks : List SEn) (i : Nat) (L : List SEn) : Prop := (∀ p ∈ L, p ∈ ks.take i) ∧ (∀ p ∈ ks.take i, p.2 ∈ L.map (·.2)) ∧ L.length ≤ i
theorem tk1 {α : Type} {l : List α} {i : Nat} {x : α} (h : l[i]? = some x) : l.take (i + 1) = l.take i ++ [x] := by rw [List.take_add_one, h]; rfl
theorem Gt.there {ks L : List SEn} {i : Nat} {x : SEn} (g : Gt ks i L) (h : ks[i]? = some x) (m : x.2 ∈ L.map (·.2)) : Gt ks (i + 1) L := by
  obtain ⟨g1, g2, g3⟩ := g
  unfold Gt
  rw [tk1 h]
  refine ⟨fun p hp => List.mem_append_left _ (g1 p hp), fun p hp => ?_, by omega⟩
  rcases List.mem_append.mp hp with z | z
  · exact g2 p z
  · have : p = x := by simpa using z
    rw [this]; exact m
theorem Gt.one {ks L L' : List SEn} {i : Nat} {x : SEn} (g : Gt ks i L) (h : ks[i]? = some x) (pm : L'.Perm (x :: L)) : Gt ks (i + 1) L' := by
  obtain ⟨g1, g2, g3⟩ := g
  unfold Gt
  rw [tk1 h]
  refine ⟨fun p hp => ?_, fun p hp => ?_, by rw [pm.length_eq, List.length_cons]; omega⟩
  · rcases List.mem_cons.mp (pm.mem_iff.mp hp) with e | z
    · exact List.mem_append_right _ (by rw [e]; simp)
    · exact List.mem_append_left _ (g1 p z)
  · refine (pm.map (·.2)).mem_iff.mpr ?_
    rw [List.map_cons]
    rcases List.mem_append.mp hp with z | z
    · exact List.mem_cons_of_mem _ (g2 p z)
    · have : p = x := by simpa using z
      rw [this]; exact List.mem_cons_self
def set0 (w : World) : Obj := { cls := .type "set", dict := none, data := .set #[] 0 (.fresh 0 0 (!w.params.followText "set-order")) }
section
variable {P : Program} {w : World} {A : Around} {E : Value → Shared → Prop} {s : Shared}
theorem SR.kept {h h' : Heap} {a : Addr} {L : List SEn} {es : Array (Int × Value)} {ep : Nat} {t : SetTable} (R : SR w h a L es ep t) (ka : ∀ o, h.get? a = some o → h'.get? a = some o) (kk : ∀ p ∈ L, KH h' p.1 p.2) : SR w h' a L es ep t := by
  obtain ⟨o, e, r⟩ := R.ob
  exact ⟨⟨o, ka o e, r⟩, R.rows, R.tab, R.nd, kk, R.led, R.room, R.few⟩
end
end Z

namespace Z
open PySem L2 PyProof.Rows

mutual
theorem tok_inj : ∀ (x y : PyData) (l m : List (Int ⊕ List Nat)), PySem.W.alike x y = true → PySem.W.keyToks x ++ l = PySem.W.keyToks y ++ m → x = y ∧ l = m
  | .none, .none, l, m, _, h => ⟨rfl, by simpa [PySem.W.keyToks] using h⟩
  | .bool a, .bool b, l, m, _, h => by
    cases a <;> cases b <;> simp [PySem.W.keyToks] at h ⊢ <;> exact h
  | .int a, .int b, l, m, _, h => by
    simp [PySem.W.keyToks] at h
    exact ⟨by rw [h.1], h.2⟩
  | .str a, .str b, l, m, _, h => by
    simp only [PySem.W.keyToks, List.singleton_append, List.cons.injEq, Sum.inr.injEq] at h
    exact ⟨by rw [PySem.W.str_of_cps h.1], h.2⟩
  | .list xs, .list ys, l, m, al, h => by
    have := toks_inj xs ys l m (by simpa [PySem.W.alike] using al) (by simpa [PySem.W.keyToks] using h)
    exact ⟨by rw [this.1], this.2⟩
  | .tuple xs, .tuple ys, l, m, al, h => by
    have := toks_inj xs ys l m (by simpa [PySem.W.alike] using al) (by simpa [PySem.W.keyToks] using h)
    exact ⟨by rw [this.1], this.2⟩
  | .none, .bool _, _, _, al, _ | .none, .int _, _, _, al, _ | .none, .str _, _, _, al, _ | .none, .list _, _, _, al, _ | .none, .tuple _, _, _, al, _ | .none, .dict _, _, _, al, _
  | .bool _, .none, _, _, al, _ | .bool _, .int _, _, _, al, _ | .bool _, .str _, _, _, al, _ | .bool _, .list _, _, _, al, _ | .bool _, .tuple _, _, _, al, _ | .bool _, .dict _, _, _, al, _
  | .int _, .none, _, _, al, _ | .int _, .bool _, _, _, al, _ | .int _, .str _, _, _, al, _ | .int _, .list _, _, _, al, _ | .int _, .tuple _, _, _, al, _ | .int _, .dict _, _, _, al, _
  | .str _, .none, _, _, al, _ | .str _, .bool _, _, _, al, _ | .str _, .int _, _, _, al, _ | .str _, .list _, _, _, al, _ | .str _, .tuple _, _, _, al, _ | .str _, .dict _, _, _, al, _
  | .list _, .none, _, _, al, _ | .list _, .bool _, _, _, al, _ | .list _, .int _, _, _, al, _ | .list _, .str _, _, _, al, _ | .list _, .tuple _, _, _, al, _ | .list _, .dict _, _, _, al, _
  | .tuple _, .none, _, _, al, _ | .tuple _, .bool _, _, _, al, _ | .tuple _, .int _, _, _, al, _ | .tuple _, .str _, _, _, al, _ | .tuple _, .list _, _, _, al, _ | .tuple _, .dict _, _, _, al, _
  | .dict _, .none, _, _, al, _ | .dict _, .bool _, _, _, al, _ | .dict _, .int _, _, _, al, _ | .dict _, .str _, _, _, al, _ | .dict _, .list _, _, _, al, _ | .dict _, .tuple _, _, _, al, _ | .dict _, .dict _, _, _, al, _ => by simp [PySem.W.alike] at al
theorem toks_inj : ∀ (xs ys : List PyData) (l m : List (Int ⊕ List Nat)), PySem.W.alikeAll xs ys = true → PySem.W.keyToksAll xs ++ l = PySem.W.keyToksAll ys ++ m → xs = ys ∧ l = m
  | [], [], l, m, _, h => ⟨rfl, by simpa [PySem.W.keyToksAll] using h⟩
  | [], _ :: _, l, m, _, h => by simp [PySem.W.keyToksAll] at h
  | _ :: _, [], l, m, _, h => by simp [PySem.W.keyToksAll] at h
  | x :: xs, y :: ys, l, m, al, h => by
    obtain ⟨a1, a2⟩ := PySem.W.alike_all_cons al
    simp only [PySem.W.keyToksAll, List.cons_append, List.cons.injEq, true_and, List.append_assoc] at h
    obtain ⟨e1, e2⟩ := tok_inj x y _ _ a1 h
    obtain ⟨e3, e4⟩ := toks_inj xs ys l m a2 e2
    exact ⟨by rw [e1, e3], e4⟩
end
theorem lt_total {x y : PyData} (al : PySem.W.alike x y = true) (h1 : PySem.W.dataLt x y = false) (h2 : PySem.W.dataLt y x = false) : x = y :=
  (tok_inj x y [] [] al (by rw [List.append_nil, List.append_nil]; exact PyProof.Rows.lex_total _ _ h1 h2)).1
theorem le_iff {x y : PyData} : PySem.W.dataLe false id x y = true ↔ PySem.W.dataLt y x = false := by
  show (!PySem.W.dataLt y x) = true ↔ _
  cases PySem.W.dataLt y x <;> simp
theorem srt_pw (l : List PyData) : (srt l).Pairwise fun a b => PySem.W.dataLe false id a b = true := by
  refine List.pairwise_mergeSort (fun a b c h1 h2 => ?_) (fun a b => ?_) l
  · rw [le_iff] at *
    cases q : PySem.W.dataLt c a with
    | false => rfl
    | true =>
      rcases PyProof.Rows.lex_negTrans _ (PySem.W.keyToks b) _ q with z | z
      · exact absurd (show PySem.W.dataLt c b = true from z) (by rw [h2]; decide)
      · exact absurd (show PySem.W.dataLt b a = true from z) (by rw [h1]; decide)
  · rw [Bool.or_eq_true, le_iff, le_iff]
    cases q : PySem.W.dataLt b a with
    | false => exact .inl rfl
    | true =>
      right
      cases q2 : PySem.W.dataLt a b with
      | false => rfl
      | true =>
        have := PyProof.Rows.lex_trans _ _ _ q q2
        rw [PyProof.Rows.lex_irrefl] at this
        cases this
theorem srt_eq {l m : List PyData} (al : PySem.W.AllAlike l) (h : l.Perm m) : srt l = srt m := by
  refine List.Perm.eq_of_pairwise (le := fun a b => PySem.W.dataLe false id a b = true) (fun a b ha hb h1 h2 => ?_) (srt_pw l) (srt_pw m) ((srt_perm l).trans (h.trans (srt_perm m).symm))
  have ha' : a ∈ l := (srt_perm l).mem_iff.mp ha
  have hb' : b ∈ l := h.mem_iff.mpr ((srt_perm m).mem_iff.mp hb)
  exact lt_total (al a ha' b hb') (le_iff.mp h2) (le_iff.mp h1)
/-- each once -/
noncomputable def dd : List PyData → List PyData
  | [] => []
  | d :: ds => if d ∈ ds then dd ds else d :: dd ds
theorem dd_mem {x : PyData} : ∀ {l : List PyData}, x ∈ dd l ↔ x ∈ l
  | [] => Iff.rfl
  | d :: ds => by
    unfold dd
    by_cases h : d ∈ ds
    · rw [if_pos h, dd_mem, List.mem_cons]
      exact ⟨.inr, fun z => z.elim (fun e => e ▸ h) id⟩
    · rw [if_neg h, List.mem_cons, List.mem_cons, dd_mem]
end Z

namespace Z
open PySem L2 PyProof.Rows

section
variable {X : Cx} {pins : List (Addr × Obj)} {σ : L2.St} {H : Hp} {s : Shared}
theorem kh_of (I : Inv X pins σ H s) {a : Addr} {d : PyData} (k : KyD X.K H a d) : KH s.heap a d := ⟨dp_at I d _ _ k.2.1 k.1 rfl, k.2.2⟩
theorem vals_fore : ∀ (ks : List SEn), Vals (ks.map fun p => V.ref p.1) (ks.map fun p => Value.ref p.1)
  | [] => .nil
  | p :: ks => .cons rfl (vals_fore ks)
theorem reads_key {h : Heap} : ∀ (d : PyData) (v : Value), isAt h d v → Reads h v d []
  | .int i, _, x => by obtain ⟨t, rfl⟩ := x; exact .int i t
  | .str i, _, x => by obtain ⟨t, rfl⟩ := x; exact .str i t
  | .tuple ds, _, x => by
    obtain ⟨a, rfl, o, its, n, h1, h2, h3, h4⟩ := x
    exact .tuple h1 h2 h3 (readsAll_key ds _ h4)
  | .none, _, x => x.elim
  | .bool _, _, x => x.elim
  | .list _, _, x => x.elim
  | .dict _, _, x => x.elim
where
  readsAll_key {h : Heap} : ∀ (ds : List PyData) (vs : List Value), isAts h ds vs → ReadsAll h vs ds []
  | [], [], _ => .nil
  | [], _ :: _, x => x.elim
  | _ :: _, [], x => x.elim
  | d :: ds, v :: vs, x => by
    have := ReadsAll.cons (reads_key d v x.1) (readsAll_key ds vs x.2)
    simpa using this
theorem each_self {R : Value → SEn → Prop} : ∀ (L : List SEn), (∀ p ∈ L, R (Value.ref p.1) p) → PySem.W.EachIs R (L.map fun p => Value.ref p.1) L
  | [], _ => .nil
  | p :: L, h => .cons (h p List.mem_cons_self) (each_self L fun q hq => h q (List.mem_cons_of_mem _ hq))
theorem each_ref : ∀ {us : List Value} {L : List SEn}, PySem.W.EachIs (fun u (p : SEn) => u = .ref p.1) us L → us = L.map fun p => Value.ref p.1
  | _, _, .nil => rfl
  | _, _, .cons h t => by rw [h, each_ref t]; rfl
end
end Z

namespace Z
open PySem L2 PyProof.Rows

structure Tp where
  cells : List Int
  n : Int
  x : Int
  y : Int
section
variable {X : Cx} {e a b c : Expr} {es : List Expr} {st : Stmt} {rest body : List Stmt} {s s' s1 s2 s3 : S} {r : SD} {rs : List SD} {pos p : Pos} {P : Po} {x y : PyData} {i j : Int} {o n : Nat} {O O' : Own}
end
section
variable {X : Cx} {x1 x2 e : Expr} {s s1 s' : S} {p pos : Pos} {o k j : Nat} {b b' : Tp} {m d : Int}
end
end Z

namespace Z
open PySem L2 PyProof.Rows

section
open AutoSeq1 MeetsSeq MeetsSeq2
theorem ext_any (l : Addr) (its : Array Value) (n : Nat) (b : Addr) (its2 : Array Value) (n2 : Nat) (dd : Option Addr) (sl : Array (Option Value)) (h0 : ¬(!its.isEmpty && Builtin.List.listTooLong (its.size + its2.size)) = true) (h1 : its.size ≤ sizeLine) (h2 : its.size + its2.size ≤ sizeLine + 1) :
    PySem.Meets (Builtin.«list.extend» ⟨[.ref l, .ref b], []⟩) (fun _ R s => s.heap.get? l = some { cls := .type "list", dict := none, data := .seq its n, slots := #[] } ∧ s.heap.get? b = some { cls := .type "list", dict := dd, data := .seq its2 n2, slots := sl } ∧
      R (.ok (.ret Value.none)) { s with heap := s.heap.update l (Obj.mapSeq fun x => x ++ its2), toks := s.toks }) :=
  PySem.Meets.of_wp fun prog w A R s h => by
    obtain ⟨hp, g, d, tk, os⟩ := s
    obtain ⟨hl, hb, h⟩ := h
    have f1 := AutoSeq1.idx_int
    have f2 := AutoSeq1.sub_tuple_tuple
    have f3 := AutoSeq1.sub_list_list
    have f4 := AutoSeq1.sub_tuple_list
    have f5 := AutoSeq1.sub_list_tuple
    have hz' : (its ++ its2).size ≤ sizeLine + 1 := by rw [Array.size_append]; exact h2
    wp_walk using (wpAny_updateSeq hl rfl (hz := h1) (_hz' := hz')), wpAny_loadPart' hl, wpAny_loadPart' hb
    exact ⟨_, rfl, h⟩
end
section
variable {X : Cx} {e a b c : Expr} {es : List Expr} {st : Stmt} {rest body : List Stmt} {s s' s1 s2 s3 : S} {r r1 : SD} {rs : List SD} {pos p p2 q : Pos} {P : Po} {x y : PyData} {i j k : Int} {o n : Nat} {ds es' : List PyData}
def rExtQ (K : PySem.W.Frag) : V → List V → Hp → VK → Prop := fun x vs H Q => ∃ l b xs zs, x = V.ref l ∧ vs = [V.ref b] ∧ H l = some (.lst xs) ∧ SqL K H b zs ∧ xs.length + zs.length ≤ sizeLine ∧ Q .non (upd H l (.lst (xs ++ zs)))
theorem mt_extQ : MtM X "list.extend" (rExtQ X.K) := by
  intro pins s σ H x vs v us Q I rx rv h
  obtain ⟨l, b, xs, zs, rfl, rfl, hl, hb, hz, q⟩ := h
  cases rx
  obtain ⟨u, rfl, ru⟩ := rv.one
  cases ru
  obtain ⟨z, its, n, r, h1, e⟩ := I.lstM hl
  obtain ⟨its2, r2, ⟨ob, n2, e2, e3, e4, e5⟩, z2⟩ := I.list hb
  obtain ⟨oc, od, dt, sl⟩ := ob
  simp only at e3 e4 e5
  subst e3 e5
  have h2 := r2.length
  have hsz : its.toArray.size + its2.toArray.size ≤ sizeLine := by rw [List.size_toArray, List.size_toArray]; omega
  refine call_meets F.slot_list_extend ⟨_, e, rfl⟩ F.entry_list_extend (F.args_list_extend_2 _ _)
    (ext_any l its.toArray n b its2.toArray n2 od sl (by rw [notLongL hsz, Bool.and_false]; exact Bool.false_ne_true) (by rw [List.size_toArray]; omega) (by omega)) ⟨e, e2, ?_⟩
  refine ⟨.non, _, I.lset (its' := its ++ its2) hl e (by simp) (r.append r2) ?_, rfl, q⟩
  rw [List.length_append]
  omega
theorem dps_of_ks {K : PySem.W.Frag} {F : Hp} : ∀ {ks : List SEn}, (∀ p ∈ ks, Dp K F (.ref p.1) p.2) → DpAll K F (ks.map fun p => V.ref p.1) (ks.map (·.2))
  | [], _ => .nil
  | p :: ks, h => .cons (h p List.mem_cons_self) (dps_of_ks fun q m => h q (List.mem_cons_of_mem _ m))
end
end Z

namespace Z
open PySem L2 PyProof.Rows
section
variable {X : Cx} {tg iter elt tg1 iter1 : Expr} {ifs ifs1 : List Expr} {s s1 : S} {ds : List PyData} {pos : Pos}
end
end Z

namespace Z
open PySem L2 PyProof.Rows

section
open AutoSeq1 MeetsSeq MeetsSeq2
theorem add_any (l : Addr) (its : Array Value) (n : Nat) (b : Addr) (its2 : Array Value) (n2 : Nat) (dd d1 : Option Addr) (sl s1 : Array (Option Value)) (h2 : its.size + its2.size ≤ sizeLine) :
    PySem.Meets (Builtin.«list.__add__» ⟨[.ref l, .ref b], []⟩) (fun _ R s => s.heap.get? l = some { cls := .type "list", dict := d1, data := .seq its n, slots := s1 } ∧ s.heap.get? b = some { cls := .type "list", dict := dd, data := .seq its2 n2, slots := sl } ∧
      R (.ok (.ret (Value.ref s.heap.objs.size))) { s with heap := s.heap.push { cls := Value.type "list", data := Data.seq (its ++ its2) }, toks := s.toks }) :=
  PySem.Meets.of_wp fun prog w A R s h => by
    obtain ⟨hp, g, d, tk, os⟩ := s
    obtain ⟨hl, hb, h⟩ := h
    have hc0 := h2
    have f1 := AutoSeq1.idx_int
    have f2 := AutoSeq1.sub_tuple_tuple
    have f3 := AutoSeq1.sub_list_list
    have f4 := AutoSeq1.sub_tuple_list
    have f5 := AutoSeq1.sub_list_tuple
    wp_walk using wpAny_loadPart' hl, wpAny_loadPart' hb
    exact ⟨_, rfl, h⟩
theorem iadd_any (l : Addr) (its : Array Value) (n : Nat) (b : Addr) (its2 : Array Value) (n2 : Nat) (dd : Option Addr) (sl : Array (Option Value)) (h0 : ¬(!its.isEmpty && Builtin.List.listTooLong (its.size + its2.size)) = true) (h1 : its.size ≤ sizeLine) (h2 : its.size + its2.size ≤ sizeLine + 1) :
    PySem.Meets (Builtin.«list.__iadd__» ⟨[.ref l, .ref b], []⟩) (fun _ R s => s.heap.get? l = some { cls := .type "list", dict := none, data := .seq its n, slots := #[] } ∧ s.heap.get? b = some { cls := .type "list", dict := dd, data := .seq its2 n2, slots := sl } ∧
      R (.ok (.ret (Value.ref l))) { s with heap := s.heap.update l (Obj.mapSeq fun x => x ++ its2), toks := s.toks }) :=
  PySem.Meets.of_wp fun prog w A R s h => by
    obtain ⟨hp, g, d, tk, os⟩ := s
    obtain ⟨hl, hb, h⟩ := h
    have f1 := AutoSeq1.idx_int
    have f2 := AutoSeq1.sub_tuple_tuple
    have f3 := AutoSeq1.sub_list_list
    have f4 := AutoSeq1.sub_tuple_list
    have f5 := AutoSeq1.sub_list_tuple
    have hz' : (its ++ its2).size ≤ sizeLine + 1 := by rw [Array.size_append]; exact h2
    wp_walk using (wpAny_updateSeq hl rfl (hz := h1) (_hz' := hz')), wpAny_loadPart' hl, wpAny_loadPart' hb
    exact ⟨_, rfl, h⟩
theorem tup_mul1 (l : Addr) (items : Array Value) (n : Nat) (dd : Option Addr) (sl : Array (Option Value)) (x : Int) (u : Tok) (c0 : (decide (x < -(2 ^ 63)) || decide (x ≥ 2 ^ 63)) = false) (c1 : (items.isEmpty || x == 1) = true) :
    PySem.Meets (Builtin.«tuple.__mul__» ⟨[.ref l, .int x u], []⟩) (fun _ R s => s.heap.get? l = some { cls := .type "tuple", dict := dd, data := .seq items n, slots := sl } ∧
      R (.ok (.ret (Value.ref l))) { s with heap := s.heap, toks := s.toks }) :=
  PySem.Meets.of_wp fun prog w A R s h => by
    obtain ⟨hp, g, d, tk, os⟩ := s
    obtain ⟨hl, h⟩ := h
    have f1 := AutoSeq1.idx_int
    wp_walk using wpAny_loadPart' hl
    repeat (first
      | (refine wpAny_ite_false (decide_eq_false (by rw [c0]; exact Bool.false_ne_true)) ?_; wp_walk using wpAny_loadPart' hl)
      | (refine wpAny_ite_true (decide_eq_true (by rw [c1])) ?_; wp_walk using wpAny_loadPart' hl))
    exact ⟨_, rfl, h⟩
end
section
variable {X : Cx} {e a b c : Expr} {es : List Expr} {st : Stmt} {rest body : List Stmt} {s s' s1 s2 s3 : S} {r r1 : SD} {rs : List SD} {pos p p2 q : Pos} {P : Po} {x y : PyData} {i j k : Int} {o n : Nat} {ds es' : List PyData}
def rCatQ (K : PySem.W.Frag) : R2 := fun x y H Q => ∃ l b xs zs, x = V.ref l ∧ y = V.ref b ∧ SqL K H l xs ∧ SqL K H b zs ∧ xs.length + zs.length ≤ sizeLine ∧ ∀ p, H p = none → Q (.ref p) (upd H p (.lst (xs ++ zs)))
theorem op_catQ : OpR X (binaryOp .Add) (rCatQ X.K) := by
  intro pins s σ H x y v u Q I rx ry h
  obtain ⟨l, b, xs, zs, rfl, rfl, hH, hB, hz, q⟩ := h
  cases rx
  cases ry
  obtain ⟨its, r, ⟨o1, n, e1, c1, d1, f1⟩, z⟩ := I.list hH
  obtain ⟨its2, r2, ⟨o2, n2, e2, c2, d2, f2⟩, z2⟩ := I.list hB
  have h1 := r.length
  have h2 := r2.length
  obtain ⟨oc, od, dt, sl⟩ := o1
  obtain ⟨oc', od', dt', sl'⟩ := o2
  simp only at c1 c2 f1 f2
  subst c1 c2 f1 f2
  refine concat_meets ⟨_, e1, rfl⟩ ⟨_, e2, rfl⟩ noFill_list_add seq_list_add F.slot_list_add F.entry_list_add (F.args_list_add_2 _ _) (add_any l its.toArray n b its2.toArray n2 od' od sl' sl (by rw [List.size_toArray, List.size_toArray]; omega)) ⟨e1, e2, ?_⟩
  have ea : its.toArray ++ its2.toArray = (its ++ its2).toArray := by simp
  rw [ea]
  exact ⟨.ref _, _, I.lnew (t' := s.toks) (r.append r2) (by rw [List.length_append]; omega), rfl, q _ I.fresh⟩
def ipExtQ (K : PySem.W.Frag) : TIp := fun x y H Q => ∃ l b xs zs, x = V.ref l ∧ y = V.ref b ∧ H l = some (.lst xs) ∧ SqL K H b zs ∧ xs.length + zs.length ≤ sizeLine ∧ Q (.ref l) (upd H l (.lst (xs ++ zs)))
theorem ip_extQ : PIp X .Add (ipExtQ X.K) := by
  intro pins s σ H x y v u Q I rx ry h
  obtain ⟨l, b, xs, zs, rfl, rfl, hl, hb, hz, q⟩ := h
  cases rx
  cases ry
  obtain ⟨z, its, n, r, h1, e⟩ := I.lstM hl
  obtain ⟨its2, r2, ⟨ob, n2, e2, e3, e4, e5⟩, z2⟩ := I.list hb
  obtain ⟨oc, od, dt, sl⟩ := ob
  simp only at e3 e4 e5
  subst e3 e5
  have h2 := r2.length
  have hsz : its.toArray.size + its2.toArray.size ≤ sizeLine := by rw [List.size_toArray, List.size_toArray]; omega
  refine iadd_road ⟨_, e, rfl⟩ ⟨_, e2, rfl⟩ (call_meets F.slot_list_iadd ⟨_, e, rfl⟩ F.entry_list_iadd (F.args_list_iadd_2 _ _)
    (iadd_any l its.toArray n b its2.toArray n2 od sl (by rw [notLongL hsz, Bool.and_false]; exact Bool.false_ne_true) (by rw [List.size_toArray]; omega) (by omega)) ⟨e, e2, ?_⟩)
  refine ⟨.ref l, _, I.lset (its' := its ++ its2) (t' := s.toks) hl e (by simp) (r.append r2) ?_, rfl, q⟩
  rw [List.length_append]
  omega
/-- t * k, k at least 1 -/
def rRepQ (K : PySem.W.Frag) : R2 := fun x y H Q => ∃ l k xs, x = V.ref l ∧ y = V.int k ∧ SqT K H l xs ∧ xs ≠ [] ∧ 1 ≤ k ∧ k ≤ 1000 ∧ xs.length ≤ 1000 ∧ (k = 1 → Q (.ref l) H) ∧ (2 ≤ k → ∀ p, H p = none → Q (.ref p) (upd H p (.tup (List.replicate k.toNat xs).flatten)))
theorem op_repQ : OpR X (binaryOp .Mult) (rRepQ X.K) := by
  intro pins s σ H x y v u Q I rx ry h
  obtain ⟨l, k, xs, rfl, rfl, hT, hne, h1, h2, hz, q1, q2⟩ := h
  by_cases hk : k = 1
  · subst hk
    cases rx
    obtain ⟨t, rfl⟩ := ry
    obtain ⟨its, r, ⟨⟨cls, dd, data, sl⟩, ho, hc, n, hd⟩, hs⟩ := I.tuple hT
    simp only at hc hd
    subst hc hd
    exact wpAny_binaryOp_repeat_ref (T := "tuple") (U := "int") (by decide) ⟨_, ho, rfl⟩ (fun s' => typeIs_int s' 1 t) noFill_tuple_mul F.fills_int_mul F.slot_int_rmul repeat_tuple F.slot_int_index.lookup
      (call_meets F.slot_int_rmul (typeIs_int s 1 t) F.entry_int_rmul (F.args_int_rmul_2 _ _) (int_rmul_tuple 1 t l its.toArray n dd sl)
        ⟨ho, rfl, ⟨_, ho, rfl⟩, call_meets F.slot_tuple_mul ⟨_, ho, rfl⟩ F.entry_tuple_mul (F.args_tuple_mul_2 _ _) (tup_mul1 l its.toArray n dd sl 1 t rfl (by simp)) ⟨ho, ⟨.ref l, H, I.tok s.toks, rfl, q1 rfl⟩⟩⟩)
  · exact op_repT pins s σ H _ _ v u Q I rx ry ⟨l, k, xs, rfl, rfl, hT, hne, by omega, h2, hz, q2 (by omega)⟩
end
end Z

namespace Z
open PySem L2 PyProof.Rows

section
variable {X : Cx} {e a b c : Expr} {es : List Expr} {st : Stmt} {rest body : List Stmt} {s s' s1 s2 s3 : S} {r : SD} {rs : List SD} {pos p : Pos} {P : Po} {ds : List PyData} {x y : PyData} {f f' : PyData → PyData → Prop} {D D' : PyData → Prop} {o : Nat}
/-- a dict of answers: each told answer is right, each key of D is there -/
def OMs (pr : Program) (w : World) (f : PyData → PyData → Prop) (D : PyData → Prop) : Own where
  holds := fun K F H v fp => ∃ p xs, v = .ref p ∧ fp = [p] ∧ H p = some (DxO pr w p xs) ∧ (∀ d, D d → (atKey xs d).isSome = true) ∧ ∀ e ∈ xs, KyD K F e.2.1 e.1 ∧ ∃ vv dv, RelV vv e.2.2 ∧ Dp K F vv dv ∧ f e.1 dv
  stay := fun ⟨p, xs, e1, e2, e3, e0, e4⟩ e k => ⟨p, xs, e1, e2, k p (by rw [e2]; simp) _ e3, e0, fun z hz => let ⟨⟨a1, a2, a3⟩, vv, dv, a4, a5, a6⟩ := e4 z hz; ⟨⟨dpUp e _ _ a1, a2, a3⟩, vv, dv, a4, dpUp e _ _ a5, a6⟩⟩
theorem OMs.le {pr : Program} {w : World} (h1 : ∀ k v, f k v → f' k v) (h2 : ∀ d, D' d → D d) : OLe (OMs pr w f D) (OMs pr w f' D') := fun K F H v fp ⟨p, xs, e1, e2, e3, e0, e4⟩ => ⟨p, xs, e1, e2, e3, fun d hd => e0 d (h2 d hd), fun z hz => let ⟨a1, vv, dv, a4, a5, a6⟩ := e4 z hz; ⟨a1, vv, dv, a4, a5, h1 _ _ a6⟩⟩
end
end Z

namespace Z
open PySem L2 PyProof.Rows

section
variable {X : Cx} {rest : List Stmt} {s s1 : S} {P : Po} {ds : List PyData} {o : Nat}
def ODead : Own where
  holds := fun _ _ _ _ fp => fp = []
  stay := fun h _ _ => h
theorem OK.dead {K : PySem.W.Frag} {l : List En} {H : Hp} {v : V} (h : OK K l H) : OK K ((IT.o ODead, some v) :: l) H := by
  obtain ⟨F, L, e, g⟩ := h
  exact ⟨F, (((IT.o ODead, some v), []) :: L), by rw [List.map_cons, e], g.oCons rfl List.nodup_nil (fun a ha => by cases ha) (fun a ha => by cases ha)⟩
theorem Sat.slots {K : PySem.W.Frag} {σ : L2.St} {ρ : List V} {T : List En} {H : Hp} {v : V} {x : PyData} : ∀ (is : List Nat) {s : S}, is.Nodup → (∀ i ∈ is, s.e[i]? = some (.r o)) → Sat K s σ ρ ((IT.d x, some v) :: T) H → ρ[o]? = some v → Sat K ⟨is.foldl (fun e i => e.set i (.d x)) s.e, s.R⟩ σ ρ ((IT.d x, some v) :: T) H
  | [], s, _, _, g, _ => g
  | i :: is, s, nd, hi, g, hv => by
    have h0 := hi i List.mem_cons_self
    obtain ⟨u, e1, e2⟩ := g.al i o h0
    have eu : u = v := Option.some.inj (e2.symm.trans hv)
    subst eu
    obtain ⟨u', e3, _, ok⟩ := g.ok.dup (x := x) (v := some u) (List.mem_append_left _ List.mem_cons_self)
    cases e3
    have g2 : Sat K s σ ρ ((itOf (SD.d x), some u) :: ((IT.d x, some u) :: T)) H := ⟨g.le, g.lr, g.al, ok⟩
    have g3 := Sat.put (i := i) (r := .d x) (List.getElem?_eq_some_iff.mp h0).1 trivial g2
    rw [set_self e1] at g3
    have nd' := List.nodup_cons.mp nd
    exact Sat.slots is (s := ⟨s.e.set i (.d x), s.R⟩) nd'.2 (fun k hk => by
      show (s.e.set i (.d x))[k]? = _
      rw [List.getElem?_set_ne (fun e => nd'.1 (by rw [e]; exact hk))]
      exact hi k (List.mem_cons_of_mem _ hk)) g3 hv
end
end Z

namespace N
open PySem L2 PyProof.Rows
open Z (Ext dpUp dpsUp dpsLen dpsGet DxO KyD DEn)

/-- a value: a datum, or a reference to an object of the store -/
inductive D where
  | d (x : PyData) | r (j : Nat)
/-- an object of the store: a list; a dict with tuples as keys; one with ints and texts; a dict with tuples as keys that is being gone through; a range; nothing known -/
inductive Cell where
  | lst (ds : List D) | dic (kvs : List (PyData × D)) | dk (kvs : List (Key × D)) | dfz (kvs : List (PyData × D)) | rng (lo hi : Int) | tp (ds : List D) | ins (C : Addr) (fs : List (Str × D)) | gone
abbrev Sto := List Cell
abbrev Lo := List (Option D)
structure Ba where
  P : Program
  w : World
  K : PySem.W.Frag
structure W where
  F : Hp
  ρ : List Addr
structure W.le (w w' : W) : Prop where
  F : Ext w.F w'.F
  ρ : w.ρ <+: w'.ρ
theorem W.le.refl (w : W) : w.le w := ⟨Ext.refl _, List.prefix_rfl⟩
theorem W.le.trans {a b c : W} (h : a.le b) (g : b.le c) : a.le c := ⟨h.F.trans g.F, h.ρ.trans g.ρ⟩
abbrev W.take (w : W) (n : Nat) : W := ⟨w.F, w.ρ.take n⟩
theorem W.take_le (w : W) (n : Nat) : (w.take n).le w := ⟨Ext.refl _, List.take_prefix _ _⟩

def VR (B : Ba) (w : W) (v : V) : D → Prop
  | .d x => Dp B.K w.F v x
  | .r j => ∃ a, w.ρ[j]? = some a ∧ v = .ref a
def VRs (B : Ba) (w : W) : List V → List D → Prop
  | [], [] => True
  | v :: vs, d :: ds => VR B w v d ∧ VRs B w vs ds
  | _, _ => False
def DR (B : Ba) (w : W) : List DEn → List (PyData × D) → Prop
  | [], [] => True
  | e :: xs, kv :: kvs => (e.1 = kv.1 ∧ KyD B.K w.F e.2.1 e.1 ∧ ∃ vv, RelV vv e.2.2 ∧ VR B w vv kv.2) ∧ DR B w xs kvs
  | _, _ => False
def KR (B : Ba) (w : W) : List (Key × V) → List (Key × D) → Prop
  | [], [] => True
  | e :: xs, kv :: kvs => (e.1 = kv.1 ∧ VR B w e.2 kv.2) ∧ KR B w xs kvs
  | _, _ => False
/-- the attributes of an instance -/
def FR (B : Ba) (w : W) : List (Str × V) → List (Str × D) → Prop
  | [], [] => True
  | e :: xs, kv :: kvs => (e.1 = kv.1 ∧ VR B w e.2 kv.2) ∧ FR B w xs kvs
  | _, _ => False
def CR (B : Ba) (w : W) (H : Hp) (a : Addr) : Cell → Prop
  | .lst ds => w.F a = none ∧ ∃ vs, H a = some (.lst vs) ∧ VRs B w vs ds
  | .dic kvs => w.F a = none ∧ ∃ xs, H a = some (DxO B.P B.w a xs) ∧ DR B w xs kvs
  | .dk kvs => w.F a = none ∧ ∃ xs, H a = some (.dK xs) ∧ KR B w xs kvs
  | .dfz kvs => ∃ o xs, w.F a = some (.frz o (DxO B.P B.w a xs)) ∧ DR B w xs kvs
  | .rng lo hi => w.F a = none ∧ H a = some (.rng lo hi)
  | .tp ds => w.F a = none ∧ ∃ vs, H a = some (.tup vs) ∧ VRs B w vs ds
  | .ins C fs => w.F a = none ∧ ∃ dx vs, H a = some (.ins C dx vs) ∧ FR B w vs fs
  | .gone => True
structure Ok (B : Ba) (w : W) (s : Sto) (H : Hp) : Prop where
  ext : Ext w.F H
  lr : w.ρ.length = s.length
  nd : w.ρ.Nodup
  al : ∀ a ∈ w.ρ, ∃ o, H a = some o
  ce : ∀ (j : Nat) (c : Cell) (a : Addr), s[j]? = some c → w.ρ[j]? = some a → CR B w H a c
structure Sl (B : Ba) (w : W) (e : Lo) (σ : L2.St) : Prop where
  le : e.length = σ.length
  sl : ∀ (i : Nat) (d : D), e[i]? = some (some d) → ∃ v, σ[i]? = some (some v) ∧ VR B w v d

section
variable {B : Ba} {w w' : W} {H H' : Hp} {e : Lo} {s : Sto} {σ : L2.St} {v : V} {d : D} {vs : List V} {ds : List D}
theorem pre_get {α : Type} {l m : List α} (p : l <+: m) {i : Nat} {a : α} (h : l[i]? = some a) : m[i]? = some a := by
  obtain ⟨k, rfl⟩ := p
  rw [List.getElem?_append_left (List.getElem?_eq_some_iff.mp h).1]
  exact h
theorem VR.up (l : w.le w') : ∀ {d : D}, VR B w v d → VR B w' v d
  | .d x, h => dpUp l.F x v h
  | .r j, ⟨a, h1, h2⟩ => ⟨a, pre_get l.ρ h1, h2⟩
theorem VRs.up (l : w.le w') : ∀ {vs : List V} {ds : List D}, VRs B w vs ds → VRs B w' vs ds
  | [], [], _ => trivial
  | v :: vs, d :: ds, ⟨h1, h2⟩ => ⟨h1.up l, VRs.up l h2⟩
  | [], _ :: _, h => h.elim
  | _ :: _, [], h => h.elim
theorem DR.up (l : w.le w') : ∀ {xs : List DEn} {kvs : List (PyData × D)}, DR B w xs kvs → DR B w' xs kvs
  | [], [], _ => trivial
  | e :: vs, d :: ds, ⟨⟨h1, ⟨h2, h3⟩, vv, h4, h5⟩, h6⟩ => ⟨⟨h1, ⟨dpUp l.F _ _ h2, h3⟩, vv, h4, h5.up l⟩, DR.up l h6⟩
  | [], _ :: _, h => h.elim
  | _ :: _, [], h => h.elim
theorem KR.up (l : w.le w') : ∀ {xs : List (Key × V)} {kvs : List (Key × D)}, KR B w xs kvs → KR B w' xs kvs
  | [], [], _ => trivial
  | e :: vs, d :: ds, ⟨⟨h1, h2⟩, h6⟩ => ⟨⟨h1, h2.up l⟩, KR.up l h6⟩
  | [], _ :: _, h => h.elim
  | _ :: _, [], h => h.elim
theorem FR.up (l : w.le w') : ∀ {xs : List (Str × V)} {kvs : List (Str × D)}, FR B w xs kvs → FR B w' xs kvs
  | [], [], _ => trivial
  | e :: vs, d :: ds, ⟨⟨h1, h2⟩, h6⟩ => ⟨⟨h1, h2.up l⟩, FR.up l h6⟩
  | [], _ :: _, h => h.elim
  | _ :: _, [], h => h.elim
theorem Sl.up (l : w.le w') (h : Sl B w e σ) : Sl B w' e σ := ⟨h.le, fun i d q => let ⟨v, h1, h2⟩ := h.sl i d q; ⟨v, h1, h2.up l⟩⟩
theorem VRs.len : ∀ {vs : List V} {ds : List D}, VRs B w vs ds → vs.length = ds.length
  | [], [], _ => rfl
  | v :: vs, d :: ds, ⟨h1, h2⟩ => by simp [VRs.len h2]
  | [], _ :: _, h => h.elim
  | _ :: _, [], h => h.elim
theorem VRs.get : ∀ {vs : List V} {ds : List D} {i : Nat} {d : D}, VRs B w vs ds → ds[i]? = some d → ∃ v, vs[i]? = some v ∧ VR B w v d
  | [], [], i, d, _, h => by simp at h
  | v :: vs, d :: ds, 0, d', ⟨h1, h2⟩, h => by simp at h; subst h; exact ⟨v, rfl, h1⟩
  | v :: vs, d :: ds, i + 1, d', ⟨h1, h2⟩, h => by
    obtain ⟨u, a, b⟩ := VRs.get h2 (i := i) (d := d') (by simpa using h)
    exact ⟨u, by simpa using a, b⟩
  | [], _ :: _, _, _, h, _ => h.elim
  | _ :: _, [], _, _, h, _ => h.elim
theorem VRs.app : ∀ {vs us : List V} {ds es : List D}, VRs B w vs ds → VRs B w us es → VRs B w (vs ++ us) (ds ++ es)
  | [], _, [], _, _, h => h
  | v :: vs, _, d :: ds, _, ⟨h1, h2⟩, h => ⟨h1, VRs.app h2 h⟩
  | [], _, _ :: _, _, h, _ => h.elim
  | _ :: _, _, [], _, h, _ => h.elim
theorem VRs.set (hv : VR B w v d) : ∀ {vs : List V} {ds : List D} (i : Nat), VRs B w vs ds → VRs B w (vs.set i v) (ds.set i d)
  | [], [], _, _ => trivial
  | _ :: _, _ :: _, 0, ⟨_, h2⟩ => ⟨hv, h2⟩
  | _ :: _, _ :: _, i + 1, ⟨h1, h2⟩ => ⟨h1, VRs.set hv i h2⟩
  | [], _ :: _, _, h => h.elim
  | _ :: _, [], _, h => h.elim
theorem VRs.take : ∀ {vs : List V} {ds : List D} (n : Nat), VRs B w vs ds → VRs B w (vs.take n) (ds.take n)
  | _, _, 0, _ => trivial
  | [], [], n + 1, _ => trivial
  | _ :: _, _ :: _, n + 1, ⟨h1, h2⟩ => ⟨h1, VRs.take n h2⟩
  | [], _ :: _, _ + 1, h => h.elim
  | _ :: _, [], _ + 1, h => h.elim
theorem VRs.drop : ∀ {vs : List V} {ds : List D} (n : Nat), VRs B w vs ds → VRs B w (vs.drop n) (ds.drop n)
  | _, _, 0, h => h
  | [], [], n + 1, _ => trivial
  | _ :: _, _ :: _, n + 1, ⟨_, h2⟩ => VRs.drop n h2
  | [], _ :: _, _ + 1, h => h.elim
  | _ :: _, [], _ + 1, h => h.elim
theorem VRs.eraseIdx : ∀ {vs : List V} {ds : List D} (n : Nat), VRs B w vs ds → VRs B w (vs.eraseIdx n) (ds.eraseIdx n)
  | [], [], _, _ => trivial
  | _ :: _, _ :: _, 0, ⟨_, h⟩ => h
  | _ :: _, _ :: _, n + 1, ⟨h1, h2⟩ => ⟨h1, VRs.eraseIdx n h2⟩
  | [], _ :: _, _, h => h.elim
  | _ :: _, [], _, h => h.elim
/-- a row of data -/
theorem VRs.data : ∀ {vs : List V} {xs : List PyData}, VRs B w vs (xs.map .d) ↔ DpAll B.K w.F vs xs
  | [], [] => ⟨fun _ => .nil, fun _ => trivial⟩
  | v :: vs, x :: xs => ⟨fun ⟨h1, h2⟩ => .cons h1 (VRs.data.mp h2), fun h => by cases h with | cons h1 h2 => exact ⟨h1, VRs.data.mpr h2⟩⟩
  | [], _ :: _ => ⟨fun h => h.elim, fun h => by cases h⟩
  | _ :: _, [] => ⟨fun h => h.elim, fun h => by cases h⟩
theorem VRs.below : ∀ {vs : List V} {ds : List D}, VRs B w vs ds → ∀ j, D.r j ∈ ds → j < w.ρ.length
  | [], [], _, j, h => by simp at h
  | v :: vs, d :: ds, ⟨h1, h2⟩, j, h => by
    rcases List.mem_cons.mp h with h | h
    · subst h
      obtain ⟨a, h3, _⟩ := h1
      exact (List.getElem?_eq_some_iff.mp h3).1
    · exact VRs.below h2 j h
  | [], _ :: _, h, _, _ => h.elim
  | _ :: _, [], h, _, _ => h.elim

theorem CR.up (l : w.le w') {a : Addr} {c : Cell} (h : CR B w H a c) (hF : w.F a = none → w'.F a = none) (hH : ∀ o, H a = some o → H' a = some o) : CR B w' H' a c := by
  cases c with
  | lst ds => obtain ⟨h1, vs, h2, h3⟩ := h; exact ⟨hF h1, vs, hH _ h2, h3.up l⟩
  | dic ds => obtain ⟨h1, vs, h2, h3⟩ := h; exact ⟨hF h1, vs, hH _ h2, h3.up l⟩
  | dk ds => obtain ⟨h1, vs, h2, h3⟩ := h; exact ⟨hF h1, vs, hH _ h2, h3.up l⟩
  | dfz ds => obtain ⟨o, xs, h2, h3⟩ := h; exact ⟨o, xs, l.F a _ h2, h3.up l⟩
  | rng lo hi => exact ⟨hF h.1, hH _ h.2⟩
  | tp ds => obtain ⟨h1, vs, h2, h3⟩ := h; exact ⟨hF h1, vs, hH _ h2, h3.up l⟩
  | ins C fs => obtain ⟨h1, dx, vs, h2, h3⟩ := h; exact ⟨hF h1, dx, vs, hH _ h2, h3.up l⟩
  | gone => trivial
theorem CR.gone {a : Addr} : CR B w H a .gone := trivial
theorem ext_none (g : Ext w.F H) {p : Addr} (hp : H p = none) : w.F p = none := by
  cases q : w.F p with
  | none => rfl
  | some o => rw [g p o q] at hp; cases hp
theorem Ok.notin (g : Ok B w s H) {p : Addr} (hp : H p = none) : p ∉ w.ρ := fun h => by
  obtain ⟨o, ho⟩ := g.al p h
  rw [hp] at ho
  cases ho
/-- a new thing laid down for good -/
theorem Ok.frz (g : Ok B w s H) {p : Addr} {o : HO} (hp : H p = none) : Ok B ⟨upd w.F p o, w.ρ⟩ s (upd H p o) := by
  have l : w.le ⟨upd w.F p o, w.ρ⟩ := ⟨Ext.up (ext_none g.ext hp), List.prefix_rfl⟩
  refine ⟨fun a u q => ?_, g.lr, g.nd, fun a ha => ?_, fun j c a h1 h2 => ?_⟩
  · have q : upd w.F p o a = some u := q
    by_cases e : a = p
    · subst e; rw [upd_same] at q ⊢; exact q
    · rw [upd_ne e] at q ⊢; exact g.ext a u q
  · obtain ⟨u, hu⟩ := g.al a ha
    exact ⟨u, by rw [upd_ne (ne_of_none hu hp)]; exact hu⟩
  · have ha := List.mem_of_getElem? h2
    have ne : a ≠ p := fun e => g.notin hp (e ▸ ha)
    have k := g.ce j c a h1 h2
    refine k.up l (fun hn => ?_) fun o ho => by rw [upd_ne ne]; exact ho
    show upd w.F p _ a = none
    rw [upd_ne ne]; exact hn
theorem Ok.frz_le (g : Ok B w s H) {p : Addr} {o : HO} (hp : H p = none) : w.le ⟨upd w.F p o, w.ρ⟩ := ⟨Ext.up (ext_none g.ext hp), List.prefix_rfl⟩
/-- a new object of the store -/
theorem Ok.new (g : Ok B w s H) {p : Addr} {o : HO} {c : Cell} (hp : H p = none) (hc : CR B ⟨w.F, w.ρ ++ [p]⟩ (upd H p o) p c) : Ok B ⟨w.F, w.ρ ++ [p]⟩ (s ++ [c]) (upd H p o) := by
  have l : w.le ⟨w.F, w.ρ ++ [p]⟩ := ⟨Ext.refl _, List.prefix_append _ _⟩
  refine ⟨fun a u q => ?_, by simp [g.lr], ?_, fun a ha => ?_, fun j c' a h1 h2 => ?_⟩
  · have := g.ext a u q
    rw [upd_ne (ne_of_none this hp)]
    exact this
  · show (w.ρ ++ [p]).Nodup
    rw [List.nodup_append]
    exact ⟨g.nd, by simp, fun a ha b hb => by
      have : b = p := by simpa using hb
      subst this
      exact fun e => g.notin hp (e ▸ ha)⟩
  · rcases List.mem_append.mp ha with h | h
    · obtain ⟨u, hu⟩ := g.al a h
      exact ⟨u, by rw [upd_ne (ne_of_none hu hp)]; exact hu⟩
    · have : a = p := by simpa using h
      subst this
      exact ⟨o, upd_same⟩
  · by_cases hj : j < s.length
    · rw [List.getElem?_append_left hj] at h1
      have h2' : w.ρ[j]? = some a := by rwa [List.getElem?_append_left (by rw [g.lr]; exact hj)] at h2
      have k := g.ce j c' a h1 h2'
      have ne : a ≠ p := fun e => g.notin hp (e ▸ List.mem_of_getElem? h2')
      exact k.up l (fun hn => hn) fun o ho => by rw [upd_ne ne]; exact ho
    · have hj2 := (List.getElem?_eq_some_iff.mp h1).1
      rw [List.length_append, List.length_singleton] at hj2
      have e : j = s.length := by omega
      subst e
      rw [List.getElem?_append_right (Nat.le_refl _), Nat.sub_self] at h1
      rw [← g.lr, List.getElem?_append_right (Nat.le_refl _), Nat.sub_self] at h2
      cases h1
      cases h2
      exact hc
theorem Ok.new_le {p : Addr} : w.le ⟨w.F, w.ρ ++ [p]⟩ := ⟨Ext.refl _, List.prefix_append _ _⟩
theorem Ok.new_at (g : Ok B w s H) {p : Addr} : VR B ⟨w.F, w.ρ ++ [p]⟩ (.ref p) (.r s.length) := ⟨p, by
  show (w.ρ ++ [p])[s.length]? = some p
  rw [← g.lr, List.getElem?_append_right (Nat.le_refl _), Nat.sub_self]
  rfl, rfl⟩
/-- an object changes -/
theorem Ok.chg (g : Ok B w s H) {j : Nat} {a : Addr} {o : HO} {c : Cell} (hj : w.ρ[j]? = some a) (hF : w.F a = none) (hc : CR B w (upd H a o) a c) : Ok B w (s.set j c) (upd H a o) := by
  refine ⟨fun b u q => ?_, by simp [g.lr], g.nd, fun b hb => ?_, fun k c' b h1 h2 => ?_⟩
  · have ne : b ≠ a := fun e => by subst e; rw [hF] at q; cases q
    rw [upd_ne ne]
    exact g.ext b u q
  · by_cases e : b = a
    · subst e; exact ⟨o, upd_same⟩
    · obtain ⟨u, hu⟩ := g.al b hb
      exact ⟨u, by rw [upd_ne e]; exact hu⟩
  · by_cases e : k = j
    · subst e
      have hk := (List.getElem?_eq_some_iff.mp hj).1
      rw [List.getElem?_set_self (by rw [← g.lr]; exact hk)] at h1
      cases h1
      have : b = a := Option.some.inj (h2.symm.trans hj)
      subst this
      exact hc
    · rw [List.getElem?_set_ne (Ne.symm e)] at h1
      have ne : b ≠ a := fun q => by
        subst q
        exact e ((List.getElem?_inj (List.getElem?_eq_some_iff.mp h2).1 g.nd).mp (h2.trans hj.symm))
      have kk := g.ce k c' b h1 h2
      exact kk.up (W.le.refl w) (fun hn => hn) fun o ho => by rw [upd_ne ne]; exact ho
/-- an object is no longer told of -/
theorem Ok.drop (g : Ok B w s H) (j : Nat) : Ok B w (s.set j .gone) H := by
  refine ⟨g.ext, by simp [g.lr], g.nd, g.al, fun k c b h1 h2 => ?_⟩
  by_cases e : k = j
  · subst e
    have hk := (List.getElem?_eq_some_iff.mp h1).1
    rw [List.length_set] at hk
    rw [List.getElem?_set_self hk] at h1
    cases h1
    exact .gone
  · rw [List.getElem?_set_ne (Ne.symm e)] at h1
    exact g.ce k c b h1 h2
/-- what an object of the store refers to lies below -/
def Cell.below (n : Nat) : Cell → Prop
  | .lst ds => ∀ j, D.r j ∈ ds → j < n
  | .dic kvs => ∀ k j, (k, D.r j) ∈ kvs → j < n
  | .dk kvs => ∀ k j, (k, D.r j) ∈ kvs → j < n
  | .dfz kvs => ∀ k j, (k, D.r j) ∈ kvs → j < n
  | .rng _ _ => True
  | .tp ds => ∀ j, D.r j ∈ ds → j < n
  | .ins _ fs => ∀ k j, (k, D.r j) ∈ fs → j < n
  | .gone => True
theorem VR.cut {n : Nat} : ∀ {d : D}, VR B w v d → (∀ j, d = .r j → j < n) → VR B (w.take n) v d
  | .d x, h, _ => h
  | .r j, ⟨a, h1, h2⟩, hl => ⟨a, by show (w.ρ.take n)[j]? = _; rw [List.getElem?_take_of_lt (hl j rfl)]; exact h1, h2⟩
theorem VRs.cut {n : Nat} : ∀ {vs : List V} {ds : List D}, VRs B w vs ds → (∀ j, D.r j ∈ ds → j < n) → VRs B (w.take n) vs ds
  | [], [], _, _ => trivial
  | v :: vs, d :: ds, ⟨h1, h2⟩, h => ⟨h1.cut fun j e => h j (by rw [e]; simp), VRs.cut h2 fun j hj => h j (List.mem_cons_of_mem _ hj)⟩
  | [], _ :: _, h, _ => h.elim
  | _ :: _, [], h, _ => h.elim
theorem DR.cut {n : Nat} : ∀ {xs : List DEn} {kvs : List (PyData × D)}, DR B w xs kvs → (∀ k j, (k, D.r j) ∈ kvs → j < n) → DR B (w.take n) xs kvs
  | [], [], _, _ => trivial
  | e :: vs, d :: ds, ⟨⟨h1, h2, vv, h4, h5⟩, h6⟩, h => ⟨⟨h1, h2, vv, h4, h5.cut fun j q => h d.1 j (by rw [← q]; simp)⟩, DR.cut h6 fun k j hj => h k j (List.mem_cons_of_mem _ hj)⟩
  | [], _ :: _, h, _ => h.elim
  | _ :: _, [], h, _ => h.elim
theorem KR.cut {n : Nat} : ∀ {xs : List (Key × V)} {kvs : List (Key × D)}, KR B w xs kvs → (∀ k j, (k, D.r j) ∈ kvs → j < n) → KR B (w.take n) xs kvs
  | [], [], _, _ => trivial
  | e :: vs, d :: ds, ⟨⟨h1, h5⟩, h6⟩, h => ⟨⟨h1, h5.cut fun j q => h d.1 j (by rw [← q]; simp)⟩, KR.cut h6 fun k j hj => h k j (List.mem_cons_of_mem _ hj)⟩
  | [], _ :: _, h, _ => h.elim
  | _ :: _, [], h, _ => h.elim
theorem FR.cut {n : Nat} : ∀ {xs : List (Str × V)} {kvs : List (Str × D)}, FR B w xs kvs → (∀ k j, (k, D.r j) ∈ kvs → j < n) → FR B (w.take n) xs kvs
  | [], [], _, _ => trivial
  | e :: vs, d :: ds, ⟨⟨h1, h5⟩, h6⟩, h => ⟨⟨h1, h5.cut fun j q => h d.1 j (by rw [← q]; simp)⟩, FR.cut h6 fun k j hj => h k j (List.mem_cons_of_mem _ hj)⟩
  | [], _ :: _, h, _ => h.elim
  | _ :: _, [], h, _ => h.elim
theorem CR.cut {n : Nat} {a : Addr} {c : Cell} (h : CR B w H a c) (b : c.below n) : CR B (w.take n) H a c := by
  cases c with
  | lst ds => obtain ⟨h1, vs, h2, h3⟩ := h; exact ⟨h1, vs, h2, h3.cut b⟩
  | dic ds => obtain ⟨h1, vs, h2, h3⟩ := h; exact ⟨h1, vs, h2, h3.cut b⟩
  | dk ds => obtain ⟨h1, vs, h2, h3⟩ := h; exact ⟨h1, vs, h2, h3.cut b⟩
  | dfz ds => obtain ⟨o, xs, h2, h3⟩ := h; exact ⟨o, xs, h2, h3.cut b⟩
  | rng lo hi => exact h
  | tp ds => obtain ⟨h1, vs, h2, h3⟩ := h; exact ⟨h1, vs, h2, h3.cut b⟩
  | ins C fs => obtain ⟨h1, dx, vs, h2, h3⟩ := h; exact ⟨h1, dx, vs, h2, h3.cut b⟩
  | gone => trivial
theorem VR.lt {j : Nat} (h : VR B w v (.r j)) : j < w.ρ.length := let ⟨_, h1, _⟩ := h; (List.getElem?_eq_some_iff.mp h1).1
theorem DR.below : ∀ {xs : List DEn} {kvs : List (PyData × D)}, DR B w xs kvs → ∀ k j, (k, D.r j) ∈ kvs → j < w.ρ.length
  | [], [], _, _, _, h => by simp at h
  | e :: vs, d :: ds, ⟨⟨h1, h2, vv, h4, h5⟩, h6⟩, k, j, h => by
    rcases List.mem_cons.mp h with h | h
    · subst h; exact h5.lt
    · exact DR.below h6 k j h
  | [], _ :: _, h, _, _, _ => h.elim
  | _ :: _, [], h, _, _, _ => h.elim
theorem KR.below : ∀ {xs : List (Key × V)} {kvs : List (Key × D)}, KR B w xs kvs → ∀ k j, (k, D.r j) ∈ kvs → j < w.ρ.length
  | [], [], _, _, _, h => by simp at h
  | e :: vs, d :: ds, ⟨⟨h1, h5⟩, h6⟩, k, j, h => by
    rcases List.mem_cons.mp h with h | h
    · subst h; exact h5.lt
    · exact KR.below h6 k j h
  | [], _ :: _, h, _, _, _ => h.elim
  | _ :: _, [], h, _, _, _ => h.elim
theorem FR.below : ∀ {xs : List (Str × V)} {kvs : List (Str × D)}, FR B w xs kvs → ∀ k j, (k, D.r j) ∈ kvs → j < w.ρ.length
  | [], [], _, _, _, h => by simp at h
  | e :: vs, d :: ds, ⟨⟨h1, h5⟩, h6⟩, k, j, h => by
    rcases List.mem_cons.mp h with h | h
    · subst h; exact h5.lt
    · exact FR.below h6 k j h
  | [], _ :: _, h, _, _, _ => h.elim
  | _ :: _, [], h, _, _, _ => h.elim
theorem CR.isBelow {a : Addr} {c : Cell} (h : CR B w H a c) : c.below w.ρ.length := by
  cases c with
  | lst ds => obtain ⟨h1, vs, h2, h3⟩ := h; exact h3.below
  | dic ds => obtain ⟨h1, vs, h2, h3⟩ := h; exact h3.below
  | dk ds => obtain ⟨h1, vs, h2, h3⟩ := h; exact h3.below
  | dfz ds => obtain ⟨o, xs, h2, h3⟩ := h; exact h3.below
  | rng lo hi => trivial
  | tp ds => obtain ⟨h1, vs, h2, h3⟩ := h; exact h3.below
  | ins C fs => obtain ⟨h1, dx, vs, h2, h3⟩ := h; exact h3.below
  | gone => trivial
/-- the store cut back -/
theorem Ok.cut (g : Ok B w s H) {n : Nat} (h : ∀ j c, j < n → s[j]? = some c → c.below n) : Ok B (w.take n) (s.take n) H := by
  refine ⟨g.ext, by simp [g.lr], g.nd.sublist (List.take_sublist _ _), fun a ha => g.al a (List.mem_of_mem_take ha), fun j c a h1 h2 => ?_⟩
  by_cases hj : j < n
  · rw [List.getElem?_take_of_lt hj] at h1
    have h2' : w.ρ[j]? = some a := by
      have : (w.ρ.take n)[j]? = some a := h2
      rwa [List.getElem?_take_of_lt hj] at this
    exact (g.ce j c a h1 h2').cut (h j c hj h1)
  · rw [List.getElem?_eq_none (by rw [List.length_take]; omega)] at h1
    cases h1
/-- a list of data becomes a datum -/
theorem Ok.freeze (g : Ok B w s H) {j : Nat} {a : Addr} {xs : List PyData} (hs : s[j]? = some (.lst (xs.map .d))) (ha : w.ρ[j]? = some a) :
    ∃ w', w.le w' ∧ Ok B w' (s.set j .gone) H ∧ Dp B.K w'.F (.ref a) (.list xs) := by
  obtain ⟨hF, vs, hH, hv⟩ := g.ce j _ a hs ha
  have l : w.le ⟨upd w.F a (.lst vs), w.ρ⟩ := ⟨Ext.up hF, List.prefix_rfl⟩
  refine ⟨_, l, ⟨fun b u q => ?_, by simp [g.lr], g.nd, g.al, fun k c b h1 h2 => ?_⟩, .lst (.of upd_same) (dpsUp l.F _ _ (VRs.data.mp hv))⟩
  · by_cases e : b = a
    · subst e
      have q' : upd w.F b (.lst vs) b = some u := q
      rw [upd_same] at q'
      cases q'
      exact hH
    · have q' : upd w.F a (.lst vs) b = some u := q
      rw [upd_ne e] at q'
      exact g.ext b u q'
  · by_cases e : k = j
    · subst e
      have hk := (List.getElem?_eq_some_iff.mp hs).1
      rw [List.getElem?_set_self hk] at h1
      cases h1
      exact .gone
    · rw [List.getElem?_set_ne (Ne.symm e)] at h1
      have ne : b ≠ a := fun q => by
        subst q
        exact e ((List.getElem?_inj (List.getElem?_eq_some_iff.mp h2).1 g.nd).mp (h2.trans ha.symm))
      have kk := g.ce k c b h1 h2
      refine kk.up l (fun hn => ?_) fun o ho => ho
      show upd w.F a _ b = none
      rw [upd_ne ne]; exact hn
theorem Sl.put (g : Sl B w e σ) (i : Nat) (hv : VR B w v d) : Sl B w (e.set i (some d)) (σ.set i (some v)) := by
  refine ⟨by simp [g.le], fun k d' h => ?_⟩
  by_cases hk : k = i
  · subst hk
    have hl := (List.getElem?_eq_some_iff.mp h).1
    rw [List.length_set] at hl
    rw [List.getElem?_set_self hl] at h
    cases h
    exact ⟨v, by rw [List.getElem?_set_self (by rw [← g.le]; exact hl)], hv⟩
  · rw [List.getElem?_set_ne (Ne.symm hk)] at h
    obtain ⟨u, h1, h2⟩ := g.sl k d' h
    exact ⟨u, by rw [List.getElem?_set_ne (Ne.symm hk)]; exact h1, h2⟩
/-- slots forgotten -/
theorem Sl.wk (g : Sl B w e σ) {e' : Lo} (hl : e'.length = e.length) (h : ∀ (i : Nat) (d : D), e'[i]? = some (some d) → e[i]? = some (some d)) : Sl B w e' σ :=
  ⟨hl.trans g.le, fun i d q => g.sl i d (h i d q)⟩
theorem Sl.cut (g : Sl B w e σ) {n : Nat} (h : ∀ (i j : Nat), e[i]? = some (some (D.r j)) → j < n) : Sl B (w.take n) e σ :=
  ⟨g.le, fun i d q => let ⟨v, h1, h2⟩ := g.sl i d q; ⟨v, h1, h2.cut fun j e => h i j (by rw [← e]; exact q)⟩⟩
end
end N

namespace Z
open PySem L2 PyProof.Rows
theorem tup_mul0 (l : Addr) (items : Array Value) (n : Nat) (dd : Option Addr) (sl : Array (Option Value)) (x : Int) (u : Tok) (c0 : (decide (x < -(2 ^ 63)) || decide (x ≥ 2 ^ 63)) = false) (c1 : (items.isEmpty || x == 1) = false) (c2 : (decide (x ≤ 0) || items.isEmpty) = true) :
    PySem.Meets (Builtin.«tuple.__mul__» ⟨[.ref l, .int x u], []⟩) (fun _ R s => s.heap.get? l = some { cls := .type "tuple", dict := dd, data := .seq items n, slots := sl } ∧
      R (.ok (.ret (Value.ref s.heap.objs.size))) { s with heap := s.heap.push { cls := Value.type "tuple", data := Data.seq #[] }, toks := s.toks }) :=
  PySem.Meets.of_wp fun prog w A R s h => by
    obtain ⟨hp, g, d, tk, os⟩ := s
    obtain ⟨hl, h⟩ := h
    have f1 := AutoSeq1.idx_int
    wp_walk using wpAny_loadPart' hl
    repeat (first
      | (refine wpAny_ite_false (decide_eq_false (by rw [c0]; exact Bool.false_ne_true)) ?_; wp_walk using wpAny_loadPart' hl)
      | (refine wpAny_ite_false (decide_eq_false (by rw [c1]; exact Bool.false_ne_true)) ?_; wp_walk using wpAny_loadPart' hl)
      | (refine wpAny_ite_true (decide_eq_true (by rw [c2])) ?_; wp_walk using wpAny_loadPart' hl))
    exact ⟨_, rfl, h⟩
section
variable {X : Cx}
def rRep0 (K : PySem.W.Frag) : R2 := fun x y H Q => ∃ l k xs, x = V.ref l ∧ y = V.int k ∧ SqT K H l xs ∧ xs ≠ [] ∧ k ≤ 0 ∧ -1000 ≤ k ∧ ∀ p, H p = none → Q (.ref p) (upd H p (.tup []))
theorem op_rep0 : OpR X (binaryOp .Mult) (rRep0 X.K) := by
  intro pins s σ H x y v u Q I rx ry h
  obtain ⟨l, k, xs, rfl, rfl, hT, hne, h1, h2, q⟩ := h
  cases rx
  obtain ⟨t, rfl⟩ := ry
  obtain ⟨its, r, ⟨⟨cls, dd, data, sl⟩, ho, hc, n, hd⟩, hs⟩ := I.tuple hT
  simp only at hc hd
  subst hc hd
  have hle : its.length = xs.length := r.length.symm
  have hi : its.toArray.isEmpty = false := by
    cases its with
    | nil => exact absurd (List.eq_nil_of_length_eq_zero hle.symm) hne
    | cons a b => rfl
  have c0 : (decide (k < -(2 ^ 63)) || decide (k ≥ 2 ^ 63)) = false := by
    rw [decide_eq_false (by omega), decide_eq_false (by omega)] <;> rfl
  have c1 : (its.toArray.isEmpty || k == 1) = false := by
    rw [hi, Bool.false_or]
    exact beq_eq_false_iff_ne.mpr (by omega)
  have c2 : (decide (k ≤ 0) || its.toArray.isEmpty) = true := by
    rw [decide_eq_true h1, Bool.true_or]
  refine wpAny_binaryOp_repeat_ref (T := "tuple") (U := "int") (by decide) ⟨_, ho, rfl⟩ (fun s' => typeIs_int s' k t) noFill_tuple_mul F.fills_int_mul F.slot_int_rmul repeat_tuple F.slot_int_index.lookup
    (call_meets F.slot_int_rmul (typeIs_int s k t) F.entry_int_rmul (F.args_int_rmul_2 _ _) (int_rmul_tuple k t l its.toArray n dd sl)
      ⟨ho, rfl, ⟨_, ho, rfl⟩, call_meets F.slot_tuple_mul ⟨_, ho, rfl⟩ F.entry_tuple_mul (F.args_tuple_mul_2 _ _) (tup_mul0 l its.toArray n dd sl k t c0 c1 c2) ⟨ho, ?_⟩⟩)
  refine ⟨.ref s.heap.objs.size, _, I.laid (t' := s.toks) (o := .tup []) (fun b ob q => Heap.get?_push_of_some _ q) (Nat.le_refl _) ?_, rfl, q _ (I.hok.fresh (Nat.le_refl _))⟩
  exact ⟨by simp, [], .nil, IsTup.new _ _⟩
end
end Z

namespace N
open PySem L2 PyProof.Rows
open Z (Ext dpUp dpsUp dpsLen dpsGet DxO KyD DEn)

abbrev ME := Lo → Sto → Option (D × Sto)
abbrev MT := Lo → Sto → Option (Bool × Sto)
abbrev MA := Lo → Sto → Option (List D × Sto)
abbrev MO := Lo → Sto → Option (Option Int × Sto)
abbrev ba (X : Cx) : Ba := ⟨X.prog, X.w, X.K⟩
def tE (B : Ba) (e : Lo) (s : Sto) (d : D) (s' : Sto) : TE := fun σ H Q => ∃ w, Ok B w s H ∧ Sl B w e σ ∧ ∀ v w' H', w.le w' → Ok B w' s' H' → VR B w' v d → Q v H'
def tT (B : Ba) (e : Lo) (s : Sto) (b : Bool) (s' : Sto) : TT := fun σ H Q => ∃ w, Ok B w s H ∧ Sl B w e σ ∧ ∀ w' H', w.le w' → Ok B w' s' H' → Q b H'
def tA (B : Ba) (e : Lo) (s : Sto) (ds : List D) (s' : Sto) : TA := fun σ H Q => ∃ w, Ok B w s H ∧ Sl B w e σ ∧ ∀ vs w' H', w.le w' → Ok B w' s' H' → VRs B w' vs ds → Q vs H'
def tO (B : Ba) (e : Lo) (s : Sto) (o : Option Int) (s' : Sto) : TO := fun σ H Q => ∃ w, Ok B w s H ∧ Sl B w e σ ∧ ∀ w' H', w.le w' → Ok B w' s' H' → Q o H'
def NE (X : Cx) (ex : Expr) (m : ME) : Prop := ∀ e s d s', m e s = some (d, s') → PE X ex (tE (ba X) e s d s')
def NT (X : Cx) (ex : Expr) (m : MT) : Prop := ∀ e s b s', m e s = some (b, s') → PT X ex (tT (ba X) e s b s')
def NW (X : Cx) (ex : Expr) (m : MT) : Prop := ∀ e s b s', m e s = some (b, s') → PW X ex (tT (ba X) e s b s')
def NA (X : Cx) (es : List Expr) (m : MA) : Prop := ∀ e s ds s', m e s = some (ds, s') → PA X es (tA (ba X) e s ds s')
def NO (X : Cx) (o : Option Expr) (m : MO) : Prop := ∀ e s i s', m e s = some (i, s') → PO X o (tO (ba X) e s i s')
section
variable {X : Cx} {ex a b c : Expr} {es : List Expr} {m ma mb mc : ME} {pos p : Pos}
theorem PE.imp {e : Expr} {t t' : TE} (h : PE X e t) (i : ∀ σ H Q, t' σ H Q → t σ H Q) : PE X e t' := Z.PE.imp h i
theorem PT.imp {e : Expr} {t t' : TT} (h : PT X e t) (i : ∀ σ H Q, t' σ H Q → t σ H Q) : PT X e t' := Z.PT.imp h i
theorem PW.imp {e : Expr} {t t' : TT} (h : PW X e t) (i : ∀ σ H Q, t' σ H Q → t σ H Q) : PW X e t' := Z.PW.imp h i
theorem PA.imp {t t' : TA} (h : PA X es t) (i : ∀ σ H Q, t' σ H Q → t σ H Q) : PA X es t' := Z.PA.imp h i
theorem NE.fam (h : NE X ex m) : PE X ex (fun σ H Q => ∃ e s d s', m e s = some (d, s') ∧ tE (ba X) e s d s' σ H Q) :=
  ⟨fun pins sh σ H Q I ⟨e, s, d, s', hm, q⟩ => (h e s d s' hm).run pins sh σ H Q I q⟩
theorem NT.fam {m : MT} (h : NT X ex m) : PT X ex (fun σ H Q => ∃ e s d s', m e s = some (d, s') ∧ tT (ba X) e s d s' σ H Q) :=
  ⟨fun pins sh σ H Q I ⟨e, s, d, s', hm, q⟩ => (h e s d s' hm).run pins sh σ H Q I q⟩
theorem NW.fam {m : MT} (h : NW X ex m) : PW X ex (fun σ H Q => ∃ e s d s', m e s = some (d, s') ∧ tT (ba X) e s d s' σ H Q) :=
  ⟨fun w pins sh σ H Q I ⟨e, s, d, s', hm, q⟩ => (h e s d s' hm).run w pins sh σ H Q I q⟩
theorem NA.fam {m : MA} (h : NA X es m) : PA X es (fun σ H Q => ∃ e s d s', m e s = some (d, s') ∧ tA (ba X) e s d s' σ H Q) :=
  ⟨fun pos pins sh σ H Q I ⟨e, s, d, s', hm, q⟩ => (h e s d s' hm).run pos pins sh σ H Q I q⟩

def eVar (i : Nat) : ME := fun e s => match e[i]? with
  | some (some d) => some (d, s)
  | _ => none
def eC (x : PyData) : ME := fun _ s => some (.d x, s)
theorem n_var (i : Nat) {x : Str} (hN : X.N[i]? = some x := by rfl) (hv : Vis X.env.scope x := by first | exact Or.inl rfl | exact Or.inr (Or.inl rfl) | exact Or.inr (Or.inr rfl))
    (hd : (x == ("__debug__" : Str)) = false := by decide) (hcd : (x == ("__classdict__" : Str)) = false := by decide) : NE X (.Name x pos) (eVar i) := fun e s d s' h => by
  unfold eVar at h
  split at h
  · rename_i d' hd'
    cases h
    refine PE.imp (pe_var hN hv hd hcd) fun σ H Q ⟨w, g, l, q⟩ => ?_
    obtain ⟨v, h1, h2⟩ := l.sl i d hd'
    exact ⟨v, h1, q v w H (W.le.refl w) g h2⟩
  · cases h
theorem flat_vr {B : Ba} {w : W} {v : V} {x : PyData} (f : Z.flat v x) : VR B w v (.d x) := Z.flatDp f
theorem n_int {i : Int} {j : Nat} : NE X (.Constant (.int i) j pos) (eC (.int i)) := fun e s d s' h => by
  cases h
  exact PE.imp pe_int fun σ H Q ⟨w, g, l, q⟩ => q _ w H (W.le.refl w) g (flat_vr (show Z.flat (.int i) (.int i) from rfl))
theorem n_bl {i : Bool} {j : Nat} : NE X (.Constant (.bool i) j pos) (eC (.bool i)) := fun e s d s' h => by
  cases h
  exact PE.imp pe_bl fun σ H Q ⟨w, g, l, q⟩ => q _ w H (W.le.refl w) g (flat_vr (show Z.flat (.bl i) (.bool i) from rfl))
theorem n_str {i : Str} {j : Nat} : NE X (.Constant (.str i) j pos) (eC (.str i)) := fun e s d s' h => by
  cases h
  exact PE.imp pe_str fun σ H Q ⟨w, g, l, q⟩ => q _ w H (W.le.refl w) g (flat_vr (show Z.flat (.str i) (.str i) from rfl))
theorem n_non {j : Nat} : NE X (.Constant .none j pos) (eC .none) := fun e s d s' h => by
  cases h
  exact PE.imp pe_non fun σ H Q ⟨w, g, l, q⟩ => q _ w H (W.le.refl w) g (flat_vr (show Z.flat .non .none from trivial))
def aNil : MA := fun _ s => some ([], s)
def aCons (m : ME) (ms : MA) : MA := fun e s => match m e s with
  | some (d, s1) => match ms e s1 with
    | some (ds, s2) => some (d :: ds, s2)
    | none => none
  | none => none
theorem n_nil : NA X [] aNil := fun e s d s' h => by
  cases h
  exact PA.imp pa_nil fun σ H Q ⟨w, g, l, q⟩ => q [] w H (W.le.refl w) g trivial
theorem n_cons {ms : MA} (h1 : NE X ex m) (h2 : NA X es ms) (hs : starEach (ex :: es) X.env = (false, eval ex X.env) :: starEach es X.env := by rfl) : NA X (ex :: es) (aCons m ms) := fun e s ds s' h => by
  unfold aCons at h
  split at h
  · rename_i d s1 e1
    split at h
    · rename_i ds' s2 e2
      cases h
      refine PA.imp (pa_cons (h1 _ _ _ _ e1) (h2 _ _ _ _ e2) hs) fun σ H Q ⟨w, g, l, q⟩ => ⟨w, g, l, fun v w1 H1 l1 g1 v1 => ⟨w1, g1, l.up l1, fun vs w2 H2 l2 g2 v2 => ?_⟩⟩
      exact q (v :: vs) w2 H2 (l1.trans l2) g2 ⟨v1.up l2, v2⟩
    · cases h
  · cases h

def data : List D → Option (List PyData)
  | [] => some []
  | .d x :: r => match data r with
    | some xs => some (x :: xs)
    | none => none
  | .r _ :: _ => none
theorem data_map (xs : List PyData) : data (xs.map .d) = some xs := by
  induction xs with
  | nil => rfl
  | cons x xs ih => rw [List.map_cons]; unfold data; rw [ih]
theorem data_eq : ∀ {ds : List D} {xs : List PyData}, data ds = some xs → ds = xs.map .d
  | [], xs, h => by cases h; rfl
  | .d x :: r, xs, h => by
    unfold data at h
    split at h
    · rename_i ys e
      cases h
      rw [data_eq e]; rfl
    · cases h
  | .r _ :: _, _, h => by cases h
abbrev lim : Nat := 1000000
theorem lim_lt : lim < sizeLine := by decide
/-- a new list: kept for good, or an object of the store -/
def mkL (own : Bool) (s : Sto) (ds : List D) : Option (D × Sto) :=
  if own then some (.r s.length, s ++ [.lst ds]) else match data ds with
    | some xs => some (.d (.list xs), s)
    | none => none
theorem mkL_ok {B : Ba} {w : W} {s s' : Sto} {H : Hp} {own : Bool} {ds : List D} {d : D} {vs : List V} {q : Addr} (h : mkL own s ds = some (d, s')) (g : Ok B w s H) (hq : H q = none) (hv : VRs B w vs ds) :
    ∃ w', w.le w' ∧ Ok B w' s' (upd H q (.lst vs)) ∧ VR B w' (.ref q) d := by
  unfold mkL at h
  split at h
  · cases h
    exact ⟨_, Ok.new_le, g.new hq ⟨ext_none g.ext hq, vs, upd_same, hv.up Ok.new_le⟩, g.new_at⟩
  · split at h
    · rename_i xs e
      cases h
      rw [data_eq e] at hv
      exact ⟨_, g.frz_le hq, g.frz hq, .lst (.of upd_same) (dpsUp (Ext.up (ext_none g.ext hq)) _ _ (VRs.data.mp hv))⟩
    · cases h
def eTup (ms : MA) : ME := fun e s => match ms e s with
  | some (ds, s1) => match data ds with
    | some xs => if xs.length ≤ lim then some (.d (.tuple xs), s1) else none
    | none => none
  | none => none
def eLst (own : Bool) (ms : MA) : ME := fun e s => match ms e s with
  | some (ds, s1) => if ds.length ≤ lim then mkL own s1 ds else none
  | none => none
theorem tup_ok {B : Ba} {w : W} {s : Sto} {H : Hp} {xs : List PyData} {vs : List V} {q : Addr} (g : Ok B w s H) (hq : H q = none) (hv : DpAll B.K w.F vs xs) :
    ∃ w', w.le w' ∧ Ok B w' s (upd H q (.tup vs)) ∧ VR B w' (.ref q) (.d (.tuple xs)) :=
  ⟨_, g.frz_le hq, g.frz hq, .tup (.of upd_same) (dpsUp (Ext.up (ext_none g.ext hq)) _ _ hv)⟩
theorem n_tup {k : Nat} {ms : MA} (h : NA X es ms) : NE X (.Tuple es k pos) (eTup ms) := fun e s d s' hm => by
  unfold eTup at hm
  split at hm
  · rename_i ds s1 e1
    split at hm
    · rename_i xs e2
      split at hm
      · rename_i hl
        cases hm
        refine PE.imp (pe_tup (h _ _ _ _ e1)) fun σ H Q ⟨w, g, l, q⟩ => ⟨w, g, l, fun vs w1 H1 l1 g1 v1 => ?_⟩
        rw [data_eq e2] at v1
        have hd := VRs.data.mp v1
        refine ⟨by rw [dpsLen hd]; exact Nat.le_trans hl (Nat.le_of_lt lim_lt), fun q' hq => ?_⟩
        obtain ⟨w2, l2, g2, v2⟩ := tup_ok g1 hq hd
        exact q _ w2 _ (l1.trans l2) g2 v2
      · cases hm
    · cases hm
  · cases hm
theorem n_lst {own : Bool} {ms : MA} (h : NA X es ms) : NE X (.List es pos) (eLst own ms) := fun e s d s' hm => by
  unfold eLst at hm
  split at hm
  · rename_i ds s1 e1
    split at hm
    · rename_i hl
      refine PE.imp (pe_lst (h _ _ _ _ e1)) fun σ H Q ⟨w, g, l, q⟩ => ⟨w, g, l, fun vs w1 H1 l1 g1 v1 => ?_⟩
      refine ⟨by rw [v1.len]; exact Nat.le_trans hl (Nat.le_of_lt lim_lt), fun q' hq => ?_⟩
      obtain ⟨w2, l2, g2, v2⟩ := mkL_ok hm g1 hq v1
      exact q _ w2 _ (l1.trans l2) g2 v2
    · cases hm
  · cases hm

def asL (s : Sto) : D → Option (List D)
  | .d (.list xs) => some (xs.map .d)
  | .r j => match s[j]? with
    | some (.lst ds) => some ds
    | _ => none
  | _ => none
def pd (s : Sto) : D → Option PyData
  | .d x => some x
  | .r j => match s[j]? with
    | some (.lst ds) => match data ds with
      | some xs => some (.list xs)
      | none => none
    | _ => none
section
variable {B : Ba} {w : W} {s : Sto} {H : Hp} {v : V} {d : D}
theorem asL_ok {ds : List D} (h : asL s d = some ds) (g : Ok B w s H) (hv : VR B w v d) : ∃ p vs, v = .ref p ∧ SqL B.K H p vs ∧ VRs B w vs ds := by
  unfold asL at h
  split at h
  · cases h
    cases hv with
    | lst hs ha => exact ⟨_, _, rfl, g.ext.l hs, VRs.data.mpr ha⟩
  · split at h
    · rename_i j ds' e
      cases h
      obtain ⟨a, h1, rfl⟩ := hv
      obtain ⟨_, vs, h2, h3⟩ := g.ce _ _ a e h1
      exact ⟨a, vs, rfl, .of h2, h3⟩
    · cases h
  · cases h
theorem pd_ok {x : PyData} (h : pd s d = some x) (g : Ok B w s H) (hv : VR B w v d) : Dp B.K H v x := by
  unfold pd at h
  split at h
  · cases h
    exact dpUp g.ext _ _ hv
  · split at h
    · rename_i j ds e
      split at h
      · rename_i xs e2
        cases h
        obtain ⟨a, h1, rfl⟩ := hv
        obtain ⟨_, vs, h2, h3⟩ := g.ce _ _ a e h1
        rw [data_eq e2] at h3
        exact .lst (.of h2) (dpsUp g.ext _ _ (VRs.data.mp h3))
      · cases h
    · cases h
theorem vr_int {i : Int} (h : VR B w v (.d (.int i))) : v = .int i := by cases h; rfl
theorem vr_bl {i : Bool} (h : VR B w v (.d (.bool i))) : v = .bl i := by cases h; rfl
theorem vr_str {i : Str} (h : VR B w v (.d (.str i))) : v = .str i := by cases h; rfl
theorem vr_non (h : VR B w v (.d .none)) : v = .non := by cases h; rfl
theorem vi {i : Int} : VR B w (.int i) (.d (.int i)) := flat_vr (show Z.flat (.int i) (.int i) from rfl)
theorem vb {i : Bool} : VR B w (.bl i) (.d (.bool i)) := flat_vr (show Z.flat (.bl i) (.bool i) from rfl)
theorem vs' {i : Str} : VR B w (.str i) (.d (.str i)) := flat_vr (show Z.flat (.str i) (.str i) from rfl)
theorem vn : VR B w .non (.d .none) := flat_vr (show Z.flat .non .none from trivial)
end

def BiN (B : Ba) (q : R2) (s : Sto) (a b z : D) (s' : Sto) : Prop := ∀ u v w H Q, Ok B w s H → VR B w u a → VR B w v b → (∀ x w' H', w.le w' → Ok B w' s' H' → VR B w' x z → Q x H') → q u v H Q
abbrev FB := Sto → D → D → Option (D × Sto)
def OpS (X : Cx) (op : Operator) (f : FB) : Prop := ∀ s a b z s', f s a b = some (z, s') → ∃ q, OpR X (binaryOp op) q ∧ BiN (ba X) q s a b z s'
def eBin (f : FB) (ma mb : ME) : ME := fun e s => match ma e s with
  | some (a, s1) => match mb e s1 with
    | some (b, s2) => f s2 a b
    | none => none
  | none => none
theorem bin_cases {f : FB} {e : Lo} {s s' : Sto} {z : D} (h : eBin f ma mb e s = some (z, s')) : ∃ a s1 b s2, ma e s = some (a, s1) ∧ mb e s1 = some (b, s2) ∧ f s2 a b = some (z, s') := by
  unfold eBin at h
  split at h
  · rename_i a s1 e1
    split at h
    · rename_i b s2 e2
      exact ⟨a, s1, b, s2, e1, e2, h⟩
    · cases h
  · cases h
theorem bi_run {q : R2} {e : Lo} {s s1 s2 s3 : Sto} {x y z : D} (hq : BiN (ba X) q s2 x y z s3) : ∀ σ H Q, tE (ba X) e s z s3 σ H Q → tOp q (tE (ba X) e s x s1) (tE (ba X) e s1 y s2) σ H Q := fun σ H Q ⟨w, g, l, k⟩ =>
  ⟨w, g, l, fun u w1 H1 l1 g1 v1 => ⟨w1, g1, l.up l1, fun v w2 H2 l2 g2 v2 => hq u v w2 H2 Q g2 (v1.up l2) v2 fun x w3 H3 l3 g3 v3 => k x w3 H3 ((l1.trans l2).trans l3) g3 v3⟩⟩
theorem n_bin {op : Operator} {f : FB} (ho : OpS X op f) (ha : NE X a ma) (hb : NE X b mb) : NE X (.BinOp a op b pos) (eBin f ma mb) := fun e s z s' h => by
  obtain ⟨x, s1, y, s2, e1, e2, e3⟩ := bin_cases h
  obtain ⟨q, hq, hB⟩ := ho _ _ _ _ _ e3
  exact PE.imp (pe_op hq (ha _ _ _ _ e1) (hb _ _ _ _ e2)) (bi_run hB)
theorem BiN.int {B : Ba} {f : Int → Int → V} {i j : Int} {z : PyData} {s : Sto} (hz : Z.flat (f i j) z) : BiN B (rI0 f) s (.d (.int i)) (.d (.int j)) (.d z) s := fun u v w H Q g h1 h2 k => by
  cases vr_int h1
  cases vr_int h2
  exact ⟨i, j, rfl, rfl, k _ w H (W.le.refl w) g (flat_vr hz)⟩
theorem BiN.intC {B : Ba} {C : Int → Int → Prop} {f : Int → Int → V} {i j : Int} {z : PyData} {s : Sto} (hc : C i j) (hz : Z.flat (f i j) z) : BiN B (rI C f) s (.d (.int i)) (.d (.int j)) (.d z) s := fun u v w H Q g h1 h2 k => by
  cases vr_int h1
  cases vr_int h2
  exact ⟨i, j, rfl, rfl, hc, k _ w H (W.le.refl w) g (flat_vr hz)⟩
def i2 (f : Int → Int → Option Int) : FB := fun s a b => match a, b with
  | .d (.int i), .d (.int j) => match f i j with
    | some k => some (.d (.int k), s)
    | none => none
  | _, _ => none
theorem i2_cases {f : Int → Int → Option Int} {s s' : Sto} {a b z : D} (h : i2 f s a b = some (z, s')) : ∃ i j k, a = .d (.int i) ∧ b = .d (.int j) ∧ f i j = some k ∧ z = .d (.int k) ∧ s' = s := by
  unfold i2 at h
  split at h
  · rename_i i j
    split at h
    · rename_i k e
      cases h
      exact ⟨i, j, k, rfl, rfl, e, rfl, rfl⟩
    · cases h
  · cases h
def oSub : FB := i2 fun i j => some (i - j)
def oXor : FB := i2 fun i j => some (Builtin.bitXor i j)
def oDiv : FB := i2 fun i j => if 0 < j ∧ j.natAbs.log2 < 9000 then some (i / j) else none
def oMod : FB := i2 fun i j => if 0 < j then some (i % j) else none
theorem op0 {op : Operator} {f : Int → Int → Int} (h : OpR X (binaryOp op) (rI0 fun i j => .int (f i j))) : OpS X op (i2 fun i j => some (f i j)) := fun s a b z s' e => by
  obtain ⟨i, j, k, rfl, rfl, e1, rfl, rfl⟩ := i2_cases e
  cases e1
  exact ⟨_, h, BiN.int (show Z.flat (.int _) (.int _) from rfl)⟩
theorem opC {op : Operator} {f : Int → Int → Int} {C : Int → Int → Prop} {c : Int → Int → Prop} [∀ i j, Decidable (c i j)] (h : OpR X (binaryOp op) (rI C fun i j => .int (f i j))) (hc : ∀ i j, c i j → C i j) : OpS X op (i2 fun i j => if c i j then some (f i j) else none) := fun s a b z s' e => by
  obtain ⟨i, j, k, rfl, rfl, e1, rfl, rfl⟩ := i2_cases e
  split at e1
  · cases e1
    exact ⟨_, h, BiN.intC (hc i j ‹_›) (show Z.flat (.int _) (.int _) from rfl)⟩
  · cases e1
theorem o_sub : OpS X .Sub oSub := op0 op_sub
theorem o_xor : OpS X .BitXor oXor := op0 op_xor
theorem o_div : OpS X .FloorDiv oDiv := opC op_fdivW fun i j h => h
theorem o_mod : OpS X .Mod oMod := opC op_mod fun i j h => h
/-- + : numbers, texts, tuples, lists -/
def oAdd (own : Bool) : FB := fun s a b => match a, b with
  | .d (.int i), .d (.int j) => some (.d (.int (i + j)), s)
  | .d (.tuple xs), .d (.tuple ys) => if xs.length + ys.length ≤ lim then some (.d (.tuple (xs ++ ys)), s) else none
  | .d (.str x), .d (.str y) => if x.length + y.length ≤ lim then some (.d (.str (x ++ y)), s) else none
  | a, b => match asL s a with
    | some ds => match asL s b with
      | some es => if ds.length + es.length ≤ lim then mkL own s (ds ++ es) else none
      | none => none
    | none => none
theorem dp_tup {K : PySem.W.Frag} {F : Hp} {v : V} {xs : List PyData} (h : Dp K F v (.tuple xs)) : ∃ a vs, v = .ref a ∧ SqT K F a vs ∧ DpAll K F vs xs := by
  cases h with
  | tup h1 h2 => exact ⟨_, _, rfl, h1, h2⟩
theorem o_add {own : Bool} : OpS X .Add (oAdd own) := fun s a b z s' e => by
  unfold oAdd at e
  split at e
  · cases e
    exact ⟨_, op_add, BiN.int (show Z.flat (.int _) (.int _) from rfl)⟩
  · rename_i xs ys
    split at e
    · rename_i hl
      cases e
      refine ⟨_, op_catA, fun u v w H Q g h1 h2 k => ?_⟩
      obtain ⟨a, us, rfl, t1, d1⟩ := dp_tup h1
      obtain ⟨b, vs, rfl, t2, d2⟩ := dp_tup h2
      refine ⟨a, b, us, vs, rfl, rfl, g.ext.t t1, g.ext.t t2, by rw [dpsLen d1, dpsLen d2]; exact Nat.le_trans hl (Nat.le_of_lt lim_lt), fun e => ?_, fun _ e => ?_, fun _ _ p hp => ?_⟩
      · subst e
        cases d1
        exact k _ w H (W.le.refl w) g h2
      · subst e
        cases d2
        exact k _ w H (W.le.refl w) g (by rw [List.append_nil]; exact h1)
      · obtain ⟨w', l, g', v'⟩ := tup_ok g hp (Z.dpsApp d1 d2)
        exact k _ w' _ l g' v'
    · cases e
  · rename_i x y
    split at e
    · rename_i hl
      cases e
      refine ⟨_, op_add_str, fun u v w H Q g h1 h2 k => ?_⟩
      cases vr_str h1
      cases vr_str h2
      exact ⟨x, y, rfl, rfl, Nat.le_trans hl (Nat.le_of_lt lim_lt), k _ w H (W.le.refl w) g vs'⟩
    · cases e
  · split at e
    · rename_i ds e1
      split at e
      · rename_i es e2
        split at e
        · rename_i hl
          refine ⟨_, Z.op_catQ, fun u v w H Q g h1 h2 k => ?_⟩
          obtain ⟨p1, us, rfl, q1, r1⟩ := asL_ok e1 g h1
          obtain ⟨p2, vs, rfl, q2, r2⟩ := asL_ok e2 g h2
          refine ⟨p1, p2, us, vs, rfl, rfl, q1, q2, by rw [r1.len, r2.len]; exact Nat.le_trans hl (Nat.le_of_lt lim_lt), fun p hp => ?_⟩
          obtain ⟨w', l, g', v'⟩ := mkL_ok e g hp (r1.app r2)
          exact k _ w' _ l g' v'
        · cases e
      · cases e
    · cases e
theorem flat_rep {α β : Type} (R : List α → List β → Prop) (h0 : R [] []) (hA : ∀ {a b c d}, R a c → R b d → R (a ++ b) (c ++ d)) {xs : List α} {ys : List β} (h : R xs ys) : ∀ n : Nat, R (List.replicate n xs).flatten (List.replicate n ys).flatten
  | 0 => h0
  | n + 1 => by
    rw [List.replicate_succ, List.replicate_succ, List.flatten_cons, List.flatten_cons]
    exact hA h (flat_rep R h0 hA h n)
/-- * : numbers, a tuple some times -/
def oMul : FB := fun s a b => match a, b with
  | .d (.int i), .d (.int j) => if ((-(2 ^ 64) < i ∧ i < 2 ^ 64) ∨ (-(2 ^ 64) < j ∧ j < 2 ^ 64)) ∨ i.natAbs.log2 + j.natAbs.log2 < 1000000 then some (.d (.int (i * j)), s) else none
  | .d (.tuple xs), .d (.int k) => if xs ≠ [] ∧ 1 ≤ k ∧ k ≤ 1000 ∧ xs.length ≤ 1000 then some (.d (.tuple (List.replicate k.toNat xs).flatten), s) else if xs ≠ [] ∧ k ≤ 0 ∧ -1000 ≤ k then some (.d (.tuple []), s) else none
  | _, _ => none
theorem o_mul : OpS X .Mult oMul := fun s a b z s' e => by
  unfold oMul at e
  split at e
  · split at e
    · rename_i hc
      cases e
      rcases hc with hc | hc
      · exact ⟨_, op_mul, BiN.intC hc (show Z.flat (.int _) (.int _) from rfl)⟩
      · exact ⟨_, op_mulW, BiN.intC hc (show Z.flat (.int _) (.int _) from rfl)⟩
    · cases e
  · rename_i xs k'
    split at e
    · rename_i hl
      cases e
      obtain ⟨h1, h2, h3, h4⟩ := hl
      refine ⟨_, Z.op_repQ, fun u v w H Q g q1 q2 k => ?_⟩
      obtain ⟨a, us, rfl, t1, d1⟩ := dp_tup q1
      cases vr_int q2
      refine ⟨a, k', us, rfl, rfl, g.ext.t t1, fun e => h1 (by subst e; cases d1; rfl), h2, h3, by rw [dpsLen d1]; exact h4, fun e => ?_, fun _ p hp => ?_⟩
      · subst e
        refine k _ w H (W.le.refl w) g ?_
        show Dp _ _ _ (.tuple (List.replicate 1 xs).flatten)
        rw [List.replicate_succ, List.replicate_zero, List.flatten_cons, List.flatten_nil, List.append_nil]
        exact q1
      · obtain ⟨w', l, g', v'⟩ := tup_ok g hp (flat_rep (fun vs xs => DpAll _ w.F vs xs) .nil (fun a b => Z.dpsApp a b) d1 k'.toNat)
        exact k _ w' _ l g' v'
    · split at e
      · rename_i hl
        cases e
        obtain ⟨h1, h2, h3⟩ := hl
        refine ⟨_, Z.op_rep0, fun u v w H Q g q1 q2 k => ?_⟩
        obtain ⟨a, us, rfl, t1, d1⟩ := dp_tup q1
        cases vr_int q2
        refine ⟨a, k', us, rfl, rfl, g.ext.t t1, fun e => h1 (by subst e; cases d1; rfl), h2, h3, fun p hp => ?_⟩
        obtain ⟨w', l, g', v'⟩ := tup_ok (xs := []) (vs := []) g hp .nil
        exact k _ w' _ l g' v'
      · cases e
  · cases e
def eNeg (m : ME) : ME := fun e s => match m e s with
  | some (.d (.int i), s1) => some (.d (.int (-i)), s1)
  | _ => none
theorem n_neg (h : NE X a m) : NE X (.UnaryOp .USub a pos) (eNeg m) := fun e s d s' hm => by
  unfold eNeg at hm
  split at hm
  · rename_i i s1 e1
    cases hm
    refine PE.imp (pe_un un_neg (h _ _ _ _ e1)) fun σ H Q ⟨w, g, l, q⟩ => ⟨w, g, l, fun v w1 H1 l1 g1 v1 => ?_⟩
    cases vr_int v1
    exact ⟨i, rfl, q _ w1 H1 l1 g1 vi⟩
  · cases hm

abbrev FC := Sto → D → D → Option Bool
def CmpS (X : Cx) (op : CmpOp) (f : FC) : Prop := ∀ s a b k, f s a b = some k → ∃ q, OpR X (compareOp op) q ∧ BiN (ba X) q s a b (.d (.bool k)) s
def eCmp (f : FC) : ME → ME → ME := eBin fun s a b => match f s a b with
  | some k => some (.d (.bool k), s)
  | none => none
def tCmp (f : FC) (ma mb : ME) : MT := fun e s => match ma e s with
  | some (a, s1) => match mb e s1 with
    | some (b, s2) => match f s2 a b with
      | some k => some (k, s2)
      | none => none
    | none => none
  | none => none
theorem n_cmp {op : CmpOp} {f : FC} (ho : CmpS X op f) (ha : NE X a ma) (hb : NE X b mb) (hm : behindInMarks op b = false := by first | exact nomark _ | rfl) : NE X (.Compare a [op] [b] pos) (eCmp f ma mb) := fun e s z s' h => by
  obtain ⟨x, s1, y, s2, e1, e2, e3⟩ := bin_cases h
  split at e3
  · rename_i k ek
    cases e3
    obtain ⟨q, hq, hB⟩ := ho _ _ _ _ ek
    exact PE.imp (pe_cmpR hq (ha _ _ _ _ e1) (hb _ _ _ _ e2) hm) (bi_run hB)
  · cases e3
theorem nt_cmp {op : CmpOp} {f : FC} (ho : CmpS X op f) (ha : NE X a ma) (hb : NE X b mb) (hm : behindInMarks op b = false := by first | exact nomark _ | rfl) : NT X (.Compare a [op] [b] pos) (tCmp f ma mb) := fun e s k s' h => by
  unfold tCmp at h
  split at h
  · rename_i x s1 e1
    split at h
    · rename_i y s2 e2
      split at h
      · rename_i k' ek
        cases h
        obtain ⟨q, hq, hB⟩ := ho _ _ _ _ ek
        refine PT.imp (pt_cmpR hq (ha _ _ _ _ e1) (hb _ _ _ _ e2) hm) fun σ H Q ⟨w, g, l, q'⟩ => ?_
        refine bi_run hB σ H _ ⟨w, g, l, fun v w' H' l' g' v' => ?_⟩
        exact ⟨k, vr_bl v', q' w' H' l' g'⟩
      · cases h
    · cases h
  · cases h
def c2 (f : Int → Int → Bool) : FC := fun _ a b => match a, b with
  | .d (.int i), .d (.int j) => some (f i j)
  | _, _ => none
def cLt : FC := c2 fun i j => decide (i < j)
def cLe : FC := c2 fun i j => decide (i ≤ j)
def cGt : FC := c2 fun i j => decide (j < i)
def cGe : FC := c2 fun i j => decide (j ≤ i)
theorem c2_ok {op : CmpOp} {f : Int → Int → Bool} (h : OpR X (compareOp op) (rI0 fun i j => .bl (f i j))) : CmpS X op (c2 f) := fun s a b k e => by
  unfold c2 at e
  split at e
  · cases e
    exact ⟨_, h, BiN.int (show Z.flat (.bl _) (.bool _) from rfl)⟩
  · cases e
theorem c_lt : CmpS X .Lt cLt := c2_ok op_lt
theorem c_gt : CmpS X .Gt cGt := c2_ok op_gt
theorem c_ge : CmpS X .GtE cGe := c2_ok op_ge
/-- == of any data -/
def cEqv (s : Sto) (a b : D) : Option Bool := match a, b with
  | .d (.int i), .d (.int j) => some (decide (i = j))
  | a, b => match pd s a with
    | some x => match pd s b with
      | some y => if x.plain = true ∧ y.plain = true ∧ min x.depth y.depth ≤ 60 then some (PyData.eqv x y) else none
      | none => none
    | none => none
def cEq : FC := cEqv
def cNe : FC := fun s a b => match cEqv s a b with
  | some k => some (!k)
  | none => none
theorem eqv_int (i j : Int) : PyData.eqv (.int i) (.int j) = decide (i = j) := by
  simp only [PyData.eqv]
  rw [Bool.eq_iff_iff]
  simp
theorem eqv_cases {s : Sto} {a b : D} {k : Bool} (h : cEqv s a b = some k) : ∃ x y, pd s a = some x ∧ pd s b = some y ∧ x.plain = true ∧ y.plain = true ∧ min x.depth y.depth ≤ 60 ∧ k = PyData.eqv x y := by
  unfold cEqv at h
  split at h
  · rename_i i j
    cases h
    exact ⟨.int i, .int j, rfl, rfl, rfl, rfl, by simp [PyData.depth], (eqv_int i j).symm⟩
  · split at h
    · rename_i x e1
      split at h
      · rename_i y e2
        split at h
        · rename_i hc
          cases h
          exact ⟨x, y, e1, e2, hc.1, hc.2.1, hc.2.2, rfl⟩
        · cases h
      · cases h
    · cases h
theorem c_eq (hu : X.A.units + 64 < cLine) : CmpS X .Eq cEq := fun s a b k e => by
  obtain ⟨x, y, e1, e2, p1, p2, hd, rfl⟩ := eqv_cases e
  exact ⟨_, Z.op_eqZ, fun u v w H Q g h1 h2 q => ⟨x, y, pd_ok e1 g h1, pd_ok e2 g h2, p1, p2, by show X.A.units + _ < _; omega, q _ w H (W.le.refl w) g vb⟩⟩
theorem c_ne (hu : X.A.units + 64 < cLine) : CmpS X .NotEq cNe := fun s a b k e => by
  unfold cNe at e
  split at e
  · rename_i k' e'
    cases e
    obtain ⟨x, y, e1, e2, p1, p2, hd, rfl⟩ := eqv_cases e'
    exact ⟨_, Z.op_neZ, fun u v w H Q g h1 h2 q => ⟨x, y, pd_ok e1 g h1, pd_ok e2 g h2, p1, p2, by show X.A.units + _ < _; omega, q _ w H (W.le.refl w) g vb⟩⟩
  · cases e
/-- is None -/
def isNone : D → Bool
  | .d .none => true
  | _ => false
def cIsN (neg : Bool) : FC := fun s a b => match b with
  | .d .none => some (if neg then !isNone a else isNone a)
  | _ => none
theorem isNone_ok {B : Ba} {w : W} {v : V} {a : D} (h : VR B w v a) : isNone a = decide (v = .non) := by
  cases a with
  | r j => obtain ⟨p, _, rfl⟩ := h; rfl
  | d x => cases h <;> rfl
theorem c_is : CmpS X .Is (cIsN false) := fun s a b k e => by
  unfold cIsN at e
  split at e
  · cases e
    refine ⟨_, op_isN, fun u v w H Q g h1 h2 q => ?_⟩
    cases vr_non h2
    exact ⟨rfl, q _ w H (W.le.refl w) g (by rw [isNone_ok h1]; exact vb)⟩
  · cases e
end
end N

namespace N
open PySem L2 PyProof.Rows
open Z (Ext dpUp dpsUp dpsLen dpsGet DxO KyD DEn Cl cut)
section
variable {X : Cx} {ex a b c : Expr} {es : List Expr} {m ma mb mc : ME} {ms : MA} {mt mu : MT} {pos p : Pos} {f : FB}

def truD (s : Sto) : D → Option Bool
  | .d .none => some false
  | .d (.bool b) => some b
  | .d (.int i) => some (i != 0)
  | .d (.str y) => if y.length ≤ lim then some ((y.length : Int) != 0) else none
  | .d (.tuple xs) => some (!xs.isEmpty)
  | .d (.list xs) => some (!xs.isEmpty)
  | .d (.dict _) => none
  | .r j => match s[j]? with
    | some (.lst ds) => some (!ds.isEmpty)
    | some (.dk kvs) => some (!kvs.isEmpty)
    | _ => none
theorem len_empty {α β : Type} {l : List α} {m : List β} (h : l.length = m.length) : l.isEmpty = m.isEmpty := Z.empty_len h
theorem KR.len {B : Ba} {w : W} : ∀ {xs : List (Key × V)} {kvs : List (Key × D)}, KR B w xs kvs → xs.length = kvs.length
  | [], [], _ => rfl
  | v :: vs, d :: ds, ⟨h1, h2⟩ => by simp [KR.len h2]
  | [], _ :: _, h => h.elim
  | _ :: _, [], h => h.elim
theorem tru_ok {B : Ba} {w : W} {s : Sto} {H : Hp} {v : V} {d : D} {k : Bool} (h : truD s d = some k) (g : Ok B w s H) (hv : VR B w v d) : TruV B.K v H k := by
  cases d with
  | d x =>
    cases hv with
    | non => cases h; rfl
    | bl b => cases h; rfl
    | int i => cases h; rfl
    | str y =>
      have h : (if y.length ≤ lim then some ((y.length : Int) != 0) else none) = some k := h
      split at h
      · rename_i hl
        cases h
        exact ⟨Nat.le_trans hl (Nat.le_of_lt lim_lt), rfl⟩
      · cases h
    | lst hs ha => cases h; exact .inl ⟨_, g.ext.l hs, by rw [len_empty (dpsLen ha)]⟩
    | tup hs ha => cases h; exact .inr (.inl ⟨_, g.ext.t hs, by rw [len_empty (dpsLen ha)]⟩)
  | r j =>
    obtain ⟨q, h1, rfl⟩ := hv
    have h : (match s[j]? with
      | some (.lst ds) => some (!ds.isEmpty)
      | some (.dk kvs) => some (!kvs.isEmpty)
      | _ => none) = some k := h
    split at h
    · rename_i ds e
      cases h
      obtain ⟨_, vs, h2, h3⟩ := g.ce _ _ q e h1
      exact .inl ⟨_, .of h2, by rw [len_empty h3.len]⟩
    · rename_i ds e
      cases h
      obtain ⟨_, vs, h2, h3⟩ := g.ce _ _ q e h1
      exact .inr (.inr ⟨_, h2, by rw [len_empty h3.len]⟩)
    · cases h
def tVal (m : ME) : MT := fun e s => match m e s with
  | some (d, s1) => match truD s1 d with
    | some k => some (k, s1)
    | none => none
  | none => none
theorem nt_val (h : NE X ex m) (he : ∀ whole, isTrue ex X.env whole = (do let v ← whole; standAt ex.pos; holding [v] (truthy v)) := by intro _; rfl) : NT X ex (tVal m) := fun e s k s' hm => by
  unfold tVal at hm
  split at hm
  · rename_i d s1 e1
    split at hm
    · rename_i k' e2
      cases hm
      exact PT.imp (pt_truth (h _ _ _ _ e1) he) fun σ H Q ⟨w, g, l, q⟩ => ⟨w, g, l, fun v w1 H1 l1 g1 v1 => ⟨k, tru_ok e2 g1 v1, q w1 H1 l1 g1⟩⟩
    · cases hm
  · cases hm
def tNot (mt : MT) : MT := fun e s => match mt e s with
  | some (k, s1) => some (!k, s1)
  | none => none
theorem nt_not (h : NT X a mt) : NT X (.UnaryOp .Not a pos) (tNot mt) := fun e s k s' hm => by
  unfold tNot at hm
  split at hm
  · rename_i k' s1 e1
    cases hm
    exact PT.imp (pt_not (h _ _ _ _ e1)) fun σ H Q ⟨w, g, l, q⟩ => ⟨w, g, l, fun w1 H1 l1 g1 => q w1 H1 l1 g1⟩
  · cases hm
def tAnd (mt mu : MT) : MT := fun e s => match mt e s with
  | some (true, s1) => mu e s1
  | some (false, s1) => some (false, s1)
  | none => none
def tOr (mt mu : MT) : MT := fun e s => match mt e s with
  | some (false, s1) => mu e s1
  | some (true, s1) => some (true, s1)
  | none => none
theorem nw_and1 (h : NT X a mt) : NW X (.BoolOp .And [a] pos) mt := fun e s k s' hm => pw_and1 (h _ _ _ _ hm)
theorem nw_or1 (h : NT X a mt) : NW X (.BoolOp .Or [a] pos) mt := fun e s k s' hm => pw_or1 (h _ _ _ _ hm)
theorem nw_and (h1 : NT X a mt) (h2 : NW X (.BoolOp .And (b :: es) pos) mu) : NW X (.BoolOp .And (a :: b :: es) pos) (tAnd mt mu) := fun e s k s' hm => by
  unfold tAnd at hm
  split at hm
  · rename_i s1 e1
    exact PW.imp (pw_and (h1 _ _ _ _ e1) (h2 _ _ _ _ hm)) fun σ H Q ⟨w, g, l, q⟩ => ⟨w, g, l, fun w1 H1 l1 g1 => ⟨w1, g1, l.up l1, fun w2 H2 l2 g2 => q w2 H2 (l1.trans l2) g2⟩⟩
  · rename_i s1 e1
    cases hm
    exact PW.imp (pw_and (h1 _ _ _ _ e1) h2.fam) fun σ H Q ⟨w, g, l, q⟩ => ⟨w, g, l, fun w1 H1 l1 g1 => q w1 H1 l1 g1⟩
  · cases hm
theorem nw_or (h1 : NT X a mt) (h2 : NW X (.BoolOp .Or (b :: es) pos) mu) : NW X (.BoolOp .Or (a :: b :: es) pos) (tOr mt mu) := fun e s k s' hm => by
  unfold tOr at hm
  split at hm
  · rename_i s1 e1
    exact PW.imp (pw_or (h1 _ _ _ _ e1) (h2 _ _ _ _ hm)) fun σ H Q ⟨w, g, l, q⟩ => ⟨w, g, l, fun w1 H1 l1 g1 => ⟨w1, g1, l.up l1, fun w2 H2 l2 g2 => q w2 H2 (l1.trans l2) g2⟩⟩
  · rename_i s1 e1
    cases hm
    exact PW.imp (pw_or (h1 _ _ _ _ e1) h2.fam) fun σ H Q ⟨w, g, l, q⟩ => ⟨w, g, l, fun w1 H1 l1 g1 => q w1 H1 l1 g1⟩
  · cases hm
theorem nt_bo {op : BoolOp} (h : NW X (.BoolOp op es pos) mt) : NT X (.BoolOp op es pos) mt := fun e s k s' hm => PW.pt (h _ _ _ _ hm)

theorem n_one {op : BoolOp} (h : NE X a m) : NE X (.BoolOp op [a] pos) m := fun e s d s' hm => pe_one (h _ _ _ _ hm)
def eAnd (ma mb : ME) : ME := fun e s => match ma e s with
  | some (d, s1) => match truD s1 d with
    | some true => mb e s1
    | some false => some (d, s1)
    | none => none
  | none => none
def eOr (ma mb : ME) : ME := fun e s => match ma e s with
  | some (d, s1) => match truD s1 d with
    | some false => mb e s1
    | some true => some (d, s1)
    | none => none
  | none => none
theorem n_and (h1 : NE X a ma) (h2 : NE X (.BoolOp .And (b :: es) pos) mb) : NE X (.BoolOp .And (a :: b :: es) pos) (eAnd ma mb) := fun e s d s' hm => by
  unfold eAnd at hm
  split at hm
  · rename_i d1 s1 e1
    split at hm
    · rename_i e2
      refine PE.imp (pe_andT (h1 _ _ _ _ e1) (h2 _ _ _ _ hm)) fun σ H Q ⟨w, g, l, q⟩ => ⟨w, g, l, fun v w1 H1 l1 g1 v1 => ?_⟩
      exact ⟨true, tru_ok e2 g1 v1, ⟨w1, g1, l.up l1, fun v w2 H2 l2 g2 v2 => q v w2 H2 (l1.trans l2) g2 v2⟩⟩
    · rename_i e2
      cases hm
      refine PE.imp (pe_andT (h1 _ _ _ _ e1) h2.fam) fun σ H Q ⟨w, g, l, q⟩ => ⟨w, g, l, fun v w1 H1 l1 g1 v1 => ?_⟩
      exact ⟨false, tru_ok e2 g1 v1, q v w1 H1 l1 g1 v1⟩
    · cases hm
  · cases hm
def eNot (m : ME) : ME := fun e s => match m e s with
  | some (d, s1) => match truD s1 d with
    | some k => some (.d (.bool (!k)), s1)
    | none => none
  | none => none
def eIte (mt : MT) (ma mb : ME) : ME := fun e s => match mt e s with
  | some (true, s1) => ma e s1
  | some (false, s1) => mb e s1
  | none => none
theorem n_ite (hc : NT X c mt) (ha : NE X a ma) (hb : NE X b mb) : NE X (.IfExp c a b pos) (eIte mt ma mb) := fun e s d s' hm => by
  unfold eIte at hm
  split at hm
  · rename_i s1 e1
    exact PE.imp (pe_ifExp (hc _ _ _ _ e1) (ha _ _ _ _ hm) Z.pe_noway) fun σ H Q ⟨w, g, l, q⟩ => ⟨w, g, l, fun w1 H1 l1 g1 => ⟨w1, g1, l.up l1, fun v w2 H2 l2 g2 v2 => q v w2 H2 (l1.trans l2) g2 v2⟩⟩
  · rename_i s1 e1
    exact PE.imp (pe_ifExp (hc _ _ _ _ e1) Z.pe_noway (hb _ _ _ _ hm)) fun σ H Q ⟨w, g, l, q⟩ => ⟨w, g, l, fun w1 H1 l1 g1 => ⟨w1, g1, l.up l1, fun v w2 H2 l2 g2 v2 => q v w2 H2 (l1.trans l2) g2 v2⟩⟩
  · cases hm
/-- a < b < c of numbers; the last one leaves the store -/
def chK (f g : Int → Int → Bool) (ma mb mc : ME) : MT := fun e s => match ma e s with
  | some (.d (.int i), s1) => match mb e s1 with
    | some (.d (.int j), s2) => if f i j then match mc e s2 with
        | some (.d (.int k), s3) => some (g j k, s3)
        | _ => none
      else some (false, s2)
    | _ => none
  | _ => none
def eCh (f g : Int → Int → Bool) (ma mb mc : ME) : ME := fun e s => match chK f g ma mb mc e s with
  | some (k, s1) => some (.d (.bool k), s1)
  | none => none
def cInQ (neg : Bool) (x : PyData) (ds : List PyData) : Option Bool :=
  if PyData.plainAll ds = true ∧ x.plain = true ∧ min (PyData.depthAll ds) x.depth ≤ 60 then some (if neg then !(ds.any fun z => PyData.eqv z x) else ds.any fun z => PyData.eqv z x) else none
noncomputable def dHas (kvs : List (PyData × D)) (x : PyData) : Bool := kvs.any fun kv => decide (kv.1 = x)
def kHas (kvs : List (Key × D)) (k : Key) : Bool := kvs.any fun kv => decide (kv.1 = k)
def isKey (x : PyData) : Bool := Z.isTup x && Z.kOK x && decide (Z.dep x ≤ 8)
def keyOf : PyData → Option Key
  | .int i => some (.inl i)
  | .str x => some (.inr x)
  | _ => none
/-- x in: a tuple, a list, a dict of the store -/
noncomputable def cIn (neg : Bool) : FC := fun s a b => match b with
  | .d (.tuple ds) => match pd s a with
    | some x => cInQ neg x ds
    | none => none
  | .d (.list ds) => match pd s a with
    | some x => cInQ neg x ds
    | none => none
  | .r j => match s[j]? with
    | some (.lst ds) => match data ds with
      | some ds => match pd s a with
        | some x => cInQ neg x ds
        | none => none
      | none => none
    | some (.dic kvs) => match a with
      | .d x => if isKey x then some (if neg then !dHas kvs x else dHas kvs x) else none
      | _ => none
    | some (.dk kvs) => match a with
      | .d x => match keyOf x with
        | some k => some (if neg then !kHas kvs k else kHas kvs k)
        | none => none
      | _ => none
    | _ => none
  | _ => none
theorem DR.has {B : Ba} {w : W} {x : PyData} : ∀ {xs : List DEn} {kvs : List (PyData × D)}, DR B w xs kvs → (atKey xs x).isSome = dHas kvs x
  | [], [], _ => rfl
  | e :: xs, kv :: kvs, ⟨⟨h1, _⟩, h⟩ => by
    have ih := DR.has (x := x) h
    unfold atKey dHas at ih ⊢
    rw [Option.isSome_map] at ih ⊢
    rw [List.find?_cons, List.any_cons, ← ih, h1]
    by_cases hk : kv.1 = x
    · simp [hk]
    · simp [hk]
  | [], _ :: _, h => h.elim
  | _ :: _, [], h => h.elim
theorem DR.ky {B : Ba} {w : W} {H : Hp} (e : Ext w.F H) : ∀ {xs : List DEn} {kvs : List (PyData × D)}, DR B w xs kvs → ∀ x ∈ xs, KyD B.K H x.2.1 x.1
  | [], [], _, x, h => by cases h
  | y :: xs, kv :: kvs, ⟨⟨_, ⟨h2, h3⟩, _⟩, h⟩, x, hx => by
    rcases List.mem_cons.mp hx with rfl | hx
    · exact ⟨dpUp e _ _ h2, h3⟩
    · exact DR.ky e h x hx
  | [], _ :: _, h, _, _ => h.elim
  | _ :: _, [], h, _, _ => h.elim
theorem key_ok {B : Ba} {w : W} {v : V} {x : PyData} (hk : isKey x = true) (hv : VR B w v (.d x)) : ∃ b, v = .ref b ∧ KyD B.K w.F b x := by
  unfold isKey at hk
  simp only [Bool.and_eq_true, decide_eq_true_eq] at hk
  obtain ⟨⟨h1, h2⟩, h3⟩ := hk
  cases x with
  | tuple ds =>
    have hv' : Dp B.K w.F v (.tuple ds) := hv
    obtain ⟨b, vs, rfl, _, _⟩ := dp_tup hv'
    exact ⟨b, rfl, hv', h2, h3⟩
  | _ => simp [Z.isTup] at h1
theorem keyOf_ok {B : Ba} {w : W} {v : V} {x : PyData} {k : Key} (hk : keyOf x = some k) (hv : VR B w v (.d x)) : v = kV k := by
  cases x with
  | int i => cases hk; exact vr_int hv
  | str i => cases hk; exact vr_str hv
  | _ => cases hk
end
end N

namespace N
open PySem L2 PyProof.Rows
open Z (Ext dpUp dpsUp dpsLen dpsGet DxO KyD DEn Cl cut)
section
variable {X : Cx} {ex a b c : Expr} {es : List Expr} {m ma mb mc : ME} {ms : MA} {mt mu : MT} {pos p : Pos}

abbrev FA := Sto → List D → Option (D × Sto)
def CaN (B : Ba) (q : List V → Hp → VK → Prop) (s : Sto) (ds : List D) (z : D) (s' : Sto) : Prop := ∀ us w H Q, Ok B w s H → VRs B w us ds → (∀ v w' H', w.le w' → Ok B w' s' H' → VR B w' v z → Q v H') → q us H Q
def CalS (X : Cx) (u : Value) (f : FA) : Prop := ∀ s ds z s', f s ds = some (z, s') → ∃ q, CallR X u q ∧ CaN (ba X) q s ds z s'
def eCall (f : FA) (ms : MA) : ME := fun e s => match ms e s with
  | some (ds, s1) => f s1 ds
  | none => none
theorem call_cases {f : FA} {e : Lo} {s s' : Sto} {z : D} (h : eCall f ms e s = some (z, s')) : ∃ ds s1, ms e s = some (ds, s1) ∧ f s1 ds = some (z, s') := by
  unfold eCall at h
  split at h
  · rename_i ds s1 e1
    exact ⟨ds, s1, e1, h⟩
  · cases h
theorem n_callB {f : FA} {id : String} {x : Str} (hc : CalS X (.builtin id) f) (ha : NA X (ex :: es) ms) (hm : X.mg x = none) (hv : bootBuiltins x = some (.builtin id) := by decide +kernel) (cl : Cl X x ex es pos := by exact ⟨rfl, rfl, rfl⟩) (hn : x ≠ "__name__" := by decide)
    (hdb : (x == ("__debug__" : Str)) = false := by decide) : NE X (.Call (.Name x p) (ex :: es) [] pos) (eCall f ms) := fun e s z s' h => by
  obtain ⟨ds, s1, e1, e2⟩ := call_cases h
  obtain ⟨q, hq, hB⟩ := hc _ _ _ _ e2
  exact PE.imp (pe_callB hq cl.1 hm hv (ha _ _ _ _ e1) hn hdb cl.2.1 cl.2.2) fun σ H Q ⟨w, g, l, k⟩ => ⟨w, g, l, fun us w1 H1 l1 g1 v1 => hB us w1 H1 Q g1 v1 fun v w2 H2 l2 g2 v2 => k v w2 H2 (l1.trans l2) g2 v2⟩
theorem n_callT {f : FA} {id : String} {x : Str} (hc : CalS X (.type id) f) (ha : NA X (ex :: es) ms) (hm : X.mg x = none) (hv : bootBuiltins x = some (.type id) := by decide +kernel) (cl : Cl X x ex es pos := by exact ⟨rfl, rfl, rfl⟩) (hn : x ≠ "__name__" := by decide)
    (hdb : (x == ("__debug__" : Str)) = false := by decide) : NE X (.Call (.Name x p) (ex :: es) [] pos) (eCall f ms) := fun e s z s' h => by
  obtain ⟨ds, s1, e1, e2⟩ := call_cases h
  obtain ⟨q, hq, hB⟩ := hc _ _ _ _ e2
  exact PE.imp (pe_callTy hq cl.1 hm hv (ha _ _ _ _ e1) hn hdb cl.2.1 cl.2.2) fun σ H Q ⟨w, g, l, k⟩ => ⟨w, g, l, fun us w1 H1 l1 g1 v1 => hB us w1 H1 Q g1 v1 fun v w2 H2 l2 g2 v2 => k v w2 H2 (l1.trans l2) g2 v2⟩
theorem vrs1 {B : Ba} {w : W} {us : List V} {d : D} (h : VRs B w us [d]) : ∃ u, us = [u] ∧ VR B w u d := by
  match us, h with
  | [u], ⟨h1, _⟩ => exact ⟨u, rfl, h1⟩
theorem vrs2 {B : Ba} {w : W} {us : List V} {d d' : D} (h : VRs B w us [d, d']) : ∃ u v, us = [u, v] ∧ VR B w u d ∧ VR B w v d' := by
  match us, h with
  | [u, v], ⟨h1, h2, _⟩ => exact ⟨u, v, rfl, h1, h2⟩
/-- one argument, a datum out, the store as it was -/
def f1 (g : Sto → D → Option PyData) : FA := fun s ds => match ds with
  | [d] => match g s d with
    | some x => some (.d x, s)
    | none => none
  | _ => none
theorem f1_ok {u : Value} {g : Sto → D → Option PyData} (h : ∀ s d x, g s d = some x → ∃ q, CallR X u q ∧ ∀ v w H Q, Ok (ba X) w s H → VR (ba X) w v d → (∀ v' w' H', w.le w' → Ok (ba X) w' s H' → VR (ba X) w' v' (.d x) → Q v' H') → q [v] H Q) : CalS X u (f1 g) := fun s ds z s' e => by
  unfold f1 at e
  split at e
  · rename_i d
    split at e
    · rename_i x e1
      cases e
      obtain ⟨q, h1, h2⟩ := h s d x e1
      refine ⟨q, h1, fun us w H Q G hv k => ?_⟩
      obtain ⟨v, rfl, hv1⟩ := vrs1 hv
      exact h2 v w H Q G hv1 k
    · cases e
  · cases e
def lenG (s : Sto) : D → Option PyData
  | .d (.str x) => if x.length ≤ lim then some (.int (x.length : Nat)) else none
  | .d (.tuple xs) => some (.int (xs.length : Nat))
  | d => match asL s d with
    | some ds => some (.int (ds.length : Nat))
    | none => none
def bLen : FA := f1 lenG
theorem b_len : CalS X (.builtin "len") bLen := f1_ok fun s d x e => by
  unfold lenG at e
  split at e
  · rename_i y
    split at e
    · rename_i hl
      cases e
      refine ⟨_, call_len_str, fun v w H Q G hv k => ?_⟩
      cases vr_str hv
      exact ⟨y, rfl, Nat.le_trans hl (Nat.le_of_lt lim_lt), k _ w H (W.le.refl w) G vi⟩
    · cases e
  · rename_i xs
    cases e
    refine ⟨_, call_len_seq, fun v w H Q G hv k => ?_⟩
    obtain ⟨q, vs, rfl, h1, h2⟩ := dp_tup hv
    exact ⟨q, vs, rfl, .inr (G.ext.t h1), k _ w H (W.le.refl w) G (by rw [dpsLen h2]; exact vi)⟩
  · split at e
    · rename_i ds e1
      cases e
      refine ⟨_, call_len_seq, fun v w H Q G hv k => ?_⟩
      obtain ⟨q, vs, rfl, h1, h2⟩ := asL_ok e1 G hv
      exact ⟨q, vs, rfl, .inl h1, k _ w H (W.le.refl w) G (by rw [h2.len]; exact vi)⟩
    · cases e
def bInt : FA := f1 fun _ d => match d with
  | .d (.int i) => some (.int i)
  | .d (.bool b) => some (.int (if b then 1 else 0))
  | _ => none
theorem b_int : CalS X (.type "int") bInt := f1_ok fun s d x e => by
  split at e
  · rename_i i
    cases e
    refine ⟨_, call_int1, fun v w H Q G hv k => ?_⟩
    cases vr_int hv
    exact .inl ⟨i, rfl, k _ w H (W.le.refl w) G vi⟩
  · rename_i b
    cases e
    refine ⟨_, call_int1, fun v w H Q G hv k => ?_⟩
    cases vr_bl hv
    exact .inr ⟨b, rfl, k _ w H (W.le.refl w) G vi⟩
  · cases e
def intsOf : List D → Option (List Int)
  | [] => some []
  | .d (.int i) :: r => match intsOf r with
    | some xs => some (i :: xs)
    | none => none
  | _ => none
theorem ints_map (xs : List Int) : intsOf (xs.map fun i => .d (.int i)) = some xs := by
  induction xs with
  | nil => rfl
  | cons x xs ih => rw [List.map_cons]; unfold intsOf; rw [ih]
theorem ints_eq : ∀ {ds : List D} {xs : List Int}, intsOf ds = some xs → ds = xs.map fun i => .d (.int i)
  | [], xs, h => by cases h; rfl
  | .d (.int x) :: r, xs, h => by
    unfold intsOf at h
    split at h
    · rename_i ys e
      cases h
      rw [ints_eq e]; rfl
    · cases h
  | .r _ :: _, _, h => by cases h
  | .d .none :: _, _, h => by cases h
  | .d (.bool _) :: _, _, h => by cases h
  | .d (.str _) :: _, _, h => by cases h
  | .d (.list _) :: _, _, h => by cases h
  | .d (.tuple _) :: _, _, h => by cases h
  | .d (.dict _) :: _, _, h => by cases h
def bools : List D → Option (List Bool)
  | [] => some []
  | .d (.bool i) :: r => match bools r with
    | some xs => some (i :: xs)
    | none => none
  | _ => none
theorem bools_eq : ∀ {ds : List D} {xs : List Bool}, bools ds = some xs → ds = xs.map fun i => .d (.bool i)
  | [], xs, h => by cases h; rfl
  | .d (.bool x) :: r, xs, h => by
    unfold bools at h
    split at h
    · rename_i ys e
      cases h
      rw [bools_eq e]; rfl
    · cases h
  | .r _ :: _, _, h => by cases h
  | .d .none :: _, _, h => by cases h
  | .d (.int _) :: _, _, h => by cases h
  | .d (.str _) :: _, _, h => by cases h
  | .d (.list _) :: _, _, h => by cases h
  | .d (.tuple _) :: _, _, h => by cases h
  | .d (.dict _) :: _, _, h => by cases h
theorem vrs_bools {B : Ba} {w : W} : ∀ {xs : List Bool} {vs : List V}, VRs B w vs (xs.map fun i => .d (.bool i)) → vs = xs.map V.bl
  | [], [], _ => rfl
  | x :: xs, v :: vs, ⟨h1, h2⟩ => by rw [vr_bl h1, vrs_bools h2]; rfl
  | [], _ :: _, h => h.elim
  | _ :: _, [], h => h.elim
def qL (g : List D → Option PyData) : FA := f1 fun s d => match asL s d with
  | some ds => g ds
  | none => none
def bAll : FA := qL fun ds => match bools ds with
  | some bs => some (.bool (bs.all id))
  | none => none
theorem qL_ok {u : Value} {g : List D → Option PyData} {q : List V → Hp → VK → Prop} (hq : CallR X u q) (h : ∀ ds x, g ds = some x → ∀ p vs w s H (Q : VK), SqL X.K H p vs → VRs (ba X) w vs ds → Ok (ba X) w s H → (∀ v', VR (ba X) w v' (.d x) → Q v' H) → q [.ref p] H Q) : CalS X u (qL g) := f1_ok fun s d x e => by
  split at e
  · rename_i ds e1
    refine ⟨q, hq, fun v w H Q G hv k => ?_⟩
    obtain ⟨p, vs, rfl, h1, h2⟩ := asL_ok e1 G hv
    exact h ds x e p vs w s H Q h1 h2 G fun v' hv' => k v' w H (W.le.refl w) G hv'
  · cases e
theorem b_all (hk : X.calm = true) : CalS X (.builtin "all") bAll := qL_ok (cr_all hk) fun ds x e p vs w s H Q h1 h2 G k => by
  split at e
  · rename_i bs e1
    cases e
    rw [bools_eq e1] at h2
    cases vrs_bools h2
    exact ⟨p, bs, rfl, h1, k _ vb⟩
  · cases e
/-- greatest, least of two -/
def f2i (g : Int → Int → Int) : FA := fun s ds => match ds with
  | [.d (.int i), .d (.int j)] => some (.d (.int (g i j)), s)
  | _ => none
def mx2 (i j : Int) : Int := if j > i then j else i
def mn2 (i j : Int) : Int := if j < i then j else i
theorem f2i_ok {u : Value} {g : Int → Int → Int} (hq : CallR X u (fun xs H Q => ∃ i j, xs = [.int i, .int j] ∧ Q (.int (g i j)) H)) : CalS X u (f2i g) := fun s ds z s' e => by
  unfold f2i at e
  split at e
  · rename_i i j
    cases e
    refine ⟨_, hq, fun us w H Q G hv k => ?_⟩
    obtain ⟨u, v, rfl, h1, h2⟩ := vrs2 hv
    cases vr_int h1
    cases vr_int h2
    exact ⟨i, j, rfl, k _ w H (W.le.refl w) G vi⟩
  · cases e
def bMax2 : FA := f2i mx2
def bMin2 : FA := f2i mn2
theorem b_max2 (hk : X.calm = true) : CalS X (.builtin "max") bMax2 := f2i_ok (call_max2 hk)
theorem b_min2 (hk : X.calm = true) : CalS X (.builtin "min") bMin2 := f2i_ok (call_min2 hk)
/-- tuple(x), list(x) -/
def asSeq (s : Sto) (d : D) : Option (List D) := match d with
  | .d (.tuple xs) => some (xs.map .d)
  | d => asL s d
theorem asSeq_ok {B : Ba} {w : W} {s : Sto} {H : Hp} {v : V} {d : D} {ds : List D} (h : asSeq s d = some ds) (g : Ok B w s H) (hv : VR B w v d) : ∃ p vs, v = .ref p ∧ (SqL B.K H p vs ∨ SqT B.K H p vs) ∧ VRs B w vs ds := by
  unfold asSeq at h
  split at h
  · cases h
    obtain ⟨p, vs, rfl, h1, h2⟩ := dp_tup hv
    exact ⟨p, vs, rfl, .inr (g.ext.t h1), VRs.data.mpr h2⟩
  · obtain ⟨p, vs, e1, h1, h2⟩ := asL_ok h g hv
    exact ⟨p, vs, e1, .inl h1, h2⟩
def bTuple : FA := fun s ds => match ds with
  | [.d (.tuple xs)] => some (.d (.tuple xs), s)
  | [d] => match asL s d with
    | some ds => match data ds with
      | some xs => some (.d (.tuple xs), s)
      | none => none
    | none => none
  | _ => none
def bList (own : Bool) : FA := fun s ds => match ds with
  | [d] => match asSeq s d with
    | some ds => mkL own s ds
    | none => none
  | _ => none
theorem b_tuple : CalS X (.type "tuple") bTuple := fun s ds z s' e => by
  unfold bTuple at e
  split at e
  · rename_i xs
    cases e
    refine ⟨_, call_tuple_of, fun us w H Q G hv k => ?_⟩
    obtain ⟨v, rfl, hv1⟩ := vrs1 hv
    obtain ⟨p, vs, rfl, h1, h2⟩ := dp_tup hv1
    exact ⟨p, vs, rfl, .inr ⟨G.ext.t h1, k _ w H (W.le.refl w) G hv1⟩⟩
  · rename_i d _
    split at e
    · rename_i ds e1
      split at e
      · rename_i xs e2
        cases e
        refine ⟨_, call_tuple_of, fun us w H Q G hv k => ?_⟩
        obtain ⟨v, rfl, hv1⟩ := vrs1 hv
        obtain ⟨p, vs, rfl, h1, h2⟩ := asL_ok e1 G hv1
        rw [data_eq e2] at h2
        refine ⟨p, vs, rfl, .inl ⟨h1, fun l hl => ?_⟩⟩
        obtain ⟨w', l', g', v'⟩ := tup_ok G hl (VRs.data.mp h2)
        exact k _ w' _ l' g' v'
      · cases e
    · cases e
  · cases e
theorem b_list {own : Bool} : CalS X (.type "list") (bList own) := fun s ds z s' e => by
  unfold bList at e
  split at e
  · rename_i d
    split at e
    · rename_i ds e1
      refine ⟨_, call_list_of, fun us w H Q G hv k => ?_⟩
      obtain ⟨v, rfl, hv1⟩ := vrs1 hv
      obtain ⟨p, vs, rfl, h1, h2⟩ := asSeq_ok e1 G hv1
      refine ⟨p, vs, rfl, h1, fun l hl => ?_⟩
      obtain ⟨w', l', g', v'⟩ := mkL_ok e G hl h2
      exact k _ w' _ l' g' v'
    · cases e
  · cases e
/-- sorted(xs), xs a list of data of one shape -/
structure SrtOk (xs : List PyData) : Prop where
  al : PySem.W.AllAlike xs
  so : Z.SrtK xs
  dp : ∀ d ∈ xs, d.depth ≤ 60
open Classical in
noncomputable def bSorted (own : Bool) : FA := fun s ds => match ds with
  | [d] => match asL s d with
    | some ds => match data ds with
      | some xs => if SrtOk xs then mkL own s ((Z.srt xs).map .d) else none
      | none => none
    | none => none
  | _ => none
theorem b_sorted (hu : X.A.units + 64 < cLine) {own : Bool} : CalS X (.builtin "sorted") (bSorted own) := fun s ds z s' e => by
  unfold bSorted at e
  split at e
  · rename_i d
    split at e
    · rename_i ds e1
      split at e
      · rename_i xs e2
        split at e
        · rename_i hs
          refine ⟨_, Z.cr_srt, fun us w H Q G hv k => ?_⟩
          obtain ⟨v, rfl, hv1⟩ := vrs1 hv
          obtain ⟨p, vs, rfl, h1, h2⟩ := asL_ok e1 G hv1
          rw [data_eq e2] at h2
          refine ⟨p, w.F, vs, xs, rfl, h1, G.ext, VRs.data.mp h2, hs.al, hs.so, fun d hd => Z.roomS hu (hs.dp d hd), fun l ys hl hy => ?_⟩
          obtain ⟨w', l', g', v'⟩ := mkL_ok e G hl (VRs.data.mpr hy)
          exact k _ w' _ l' g' v'
        · cases e
      · cases e
    · cases e
  · cases e

inductive TyT where | tup | lst | bl | int | str
def TyT.of : TyT → PyData → Bool
  | .tup => Z.isTup | .lst => Z.isLst | .bl => Z.isBl | .int => Z.isInt | .str => Z.isStr
def TyT.nm : TyT → String
  | .tup => "tuple" | .lst => "list" | .bl => "bool" | .int => "int" | .str => "str"
theorem TyT.kit (t : TyT) (x : PyData) : kitB (Z.tyN x) t.nm = some (t.of x) := by
  cases t
  · exact Z.kit_tup x
  · exact Z.kit_lst x
  · exact Z.kit_bl x
  · exact Z.kit_int x
  · exact Z.kit_str x
def eIsi (t : TyT) (m : ME) : ME := fun e s => match m e s with
  | some (d, s1) => match pd s1 d with
    | some x => some (.d (.bool (t.of x)), s1)
    | none => none
  | none => none
theorem n_isi {T : Str} {q : Pos} (t : TyT) (ha : NE X a m) (hm : X.mg "isinstance" = none) (hmT : X.mg T = none) (hv : bootBuiltins T = some (.type t.nm) := by decide +kernel) (hg : Gl X T := by rfl) (hc : Cl X "isinstance" a [.Name T q] pos := by exact ⟨rfl, rfl, rfl⟩)
    (hs : starEach [Expr.Name T q] X.env = [(false, eval (.Name T q) X.env)] := by rfl) (hn : T ≠ "__name__" := by decide) (hd : (T == ("__debug__" : Str)) = false := by decide) :
    NE X (.Call (.Name "isinstance" p) [a, .Name T q] [] pos) (eIsi t m) := fun e s d s' h => by
  unfold eIsi at h
  split at h
  · rename_i d1 s1 e1
    split at h
    · rename_i x e2
      cases h
      refine PE.imp (pe_callB call_isi hc.1 hm (by decide +kernel) (pa_cons (ha _ _ _ _ e1) (pa_cons (pe_bltn hg hmT hv (v := .ty t.nm) rfl hn hd) pa_nil hs) hc.2.1) (by decide) (by decide) hc.2.1 hc.2.2) fun σ H Q ⟨w, g, l, q⟩ => ⟨w, g, l, fun v w1 H1 l1 g1 v1 => ?_⟩
      have d := pd_ok e2 g1 v1
      exact ⟨_, _, _, _, t.of x, rfl, .ty t.nm, Z.dp_ty d, kit_ty (t.kit x), q _ w1 H1 l1 g1 vb⟩
    · cases h
  · cases h

def gIx (s : Sto) (a : D) (i : Int) : Option D := match asSeq s a with
  | some ds => atI ds i
  | none => none
theorem vrs_atI {B : Ba} {w : W} {vs : List V} {ds : List D} {i : Int} {x : D} (h : VRs B w vs ds) (e : atI ds i = some x) : ∃ v, atI vs i = some v ∧ VR B w v x := by
  unfold atI at e ⊢
  rw [h.len]
  cases q : ixN ds.length i with
  | none => rw [q] at e; cases e
  | some j =>
    rw [q] at e
    exact h.get e
def eIx (ma mb : ME) : ME := eBin (fun s a b => match b with
  | .d (.int i) => match gIx s a i with
    | some d => some (d, s)
    | none => none
  | _ => none) ma mb
theorem n_ix (ha : NE X a ma) (hb : NE X b mb) (hs : PlainIx b := by intro _ _; rfl) : NE X (.Subscript a b pos) (eIx ma mb) := fun e s z s' h => by
  obtain ⟨x, s1, y, s2, e1, e2, e3⟩ := bin_cases h
  split at e3
  · rename_i i
    split at e3
    · rename_i d e4
      cases e3
      unfold gIx at e4
      split at e4
      · rename_i ds e5
        have run : ∀ {q : R2}, IxR X q → (∀ p vs v H Q, (SqL X.K H p vs ∨ SqT X.K H p vs) → atI vs i = some v → Q v H → q (.ref p) (.int i) H Q) → PE X (.Subscript a b pos) (tE (ba X) e s z s') := fun hq hr =>
          PE.imp (pe_ix hq (ha _ _ _ _ e1) (hb _ _ _ _ e2) hs) (bi_run fun u v w H Q g h1 h2 k => by
            cases vr_int h2
            obtain ⟨p, vs, rfl, h3, h4⟩ := asSeq_ok e5 g h1
            obtain ⟨v, h5, h6⟩ := vrs_atI h4 e4
            exact hr p vs v H Q h3 h5 (k v w H (W.le.refl w) g h6))
        exact run ix_seq fun p vs v H Q h1 h2 q => h1.elim (fun h => .inl ⟨p, vs, i, v, rfl, rfl, h, h2, q⟩) fun h => .inr (.inl ⟨p, vs, i, v, rfl, rfl, h, h2, q⟩)
      · cases e4
    · cases e3
  · cases e3
def oNone : MO := fun _ s => some (none, s)
def oSome (m : ME) : MO := fun e s => match m e s with
  | some (.d (.int i), s1) => some (some i, s1)
  | _ => none
theorem no_none : NO X none oNone := fun e s i s' h => by
  cases h
  exact Z.PO.imp po_none fun σ H Q ⟨w, g, l, q⟩ => q w H (W.le.refl w) g
theorem no_some (h : NE X ex m) : NO X (some ex) (oSome m) := fun e s i s' hm => by
  unfold oSome at hm
  split at hm
  · rename_i j s1 e1
    cases hm
    exact Z.PO.imp (po_some (h _ _ _ _ e1)) fun σ H Q ⟨w, g, l, q⟩ => ⟨w, g, l, fun v w1 H1 l1 g1 v1 => by
      cases vr_int v1
      exact ⟨j, rfl, q w1 H1 l1 g1⟩⟩
  · cases hm
def cutD {α : Type} (xs : List α) (lo hi : Option Int) : List α := (xs.drop (HT.sIx xs.length 0 lo)).take (HT.sIx xs.length xs.length hi - HT.sIx xs.length 0 lo)
theorem vrs_cut {B : Ba} {w : W} {vs : List V} {ds : List D} {lo hi : Option Int} (h : VRs B w vs ds) : VRs B w (cutV vs lo hi) (cutD ds lo hi) := by
  unfold cutV cutD
  rw [h.len]
  exact VRs.take _ (VRs.drop _ h)
theorem dps_cut {K : PySem.W.Frag} {F : Hp} {vs : List V} {ds : List PyData} {lo hi : Option Int} (h : DpAll K F vs ds) : DpAll K F (cutV vs lo hi) (cutD ds lo hi) := by
  unfold cutV cutD
  rw [dpsLen h]
  exact Z.dpsTake _ (Z.dpsDrop _ h)
def eSl (own : Bool) (ma : ME) (ml mu : MO) : ME := fun e s => match ma e s with
  | some (a, s1) => match ml e s1 with
    | some (l, s2) => match mu e s2 with
      | some (u, s3) => match a with
        | .d (.tuple xs) => some (.d (.tuple (cutD xs l u)), s3)
        | a => match asL s3 a with
          | some ds => mkL own s3 (cutD ds l u)
          | none => none
      | none => none
    | none => none
  | none => none
theorem n_sl {own : Bool} {lo hi : Option Expr} {ml mu : MO} {p2 : Pos} (ha : NE X a ma) (hl : NO X lo ml) (hu : NO X hi mu) : NE X (.Subscript a (.Slice lo hi none p2) pos) (eSl own ma ml mu) := fun e s z s' h => by
  unfold eSl at h
  split at h
  · rename_i a1 s1 e1
    split at h
    · rename_i l s2 e2
      split at h
      · rename_i u s3 e3
        split at h
        · rename_i xs
          cases h
          refine PE.imp (pe_slice sl_tupA (ha _ _ _ _ e1) (hl _ _ _ _ e2) (hu _ _ _ _ e3)) fun σ H Q ⟨w, g, L, k⟩ => ⟨w, g, L, fun v w1 H1 l1 g1 v1 => ⟨w1, g1, L.up l1, fun w2 H2 l2 g2 => ⟨w2, g2, (L.up l1).up l2, fun w3 H3 l3 g3 => ?_⟩⟩⟩
          have v3 := (v1.up l2).up l3
          obtain ⟨p, vs, rfl, h1, h2⟩ := dp_tup v3
          refine ⟨p, vs, rfl, g3.ext.t h1, fun ⟨z1, z2⟩ => ?_, fun _ q hq => ?_⟩
          · have e : cutD xs l u = xs := by
              unfold cutD
              rw [dpsLen h2] at z1 z2
              rw [z1, z2]
              simp
            exact k _ w3 _ ((l1.trans l2).trans l3) g3 (by rw [e]; exact v3)
          · obtain ⟨w4, l4, g4, v4⟩ := tup_ok g3 hq (dps_cut h2)
            exact k _ w4 _ (((l1.trans l2).trans l3).trans l4) g4 v4
        · split at h
          · rename_i ds e4
            refine PE.imp (pe_slice sl_list (ha _ _ _ _ e1) (hl _ _ _ _ e2) (hu _ _ _ _ e3)) fun σ H Q ⟨w, g, L, k⟩ => ⟨w, g, L, fun v w1 H1 l1 g1 v1 => ⟨w1, g1, L.up l1, fun w2 H2 l2 g2 => ⟨w2, g2, (L.up l1).up l2, fun w3 H3 l3 g3 => ?_⟩⟩⟩
            obtain ⟨p, vs, rfl, h1, h2⟩ := asL_ok e4 g3 ((v1.up l2).up l3)
            refine ⟨p, vs, rfl, h1, fun q hq => ?_⟩
            obtain ⟨w4, l4, g4, v4⟩ := mkL_ok h g3 hq (vrs_cut h2)
            exact k _ w4 _ (((l1.trans l2).trans l3).trans l4) g4 v4
          · cases h
      · cases h
    · cases h
  · cases h
end
end N

namespace N
open PySem L2 PyProof.Rows
open Z (Ext dpUp dpsUp dpsLen dpsGet DxO KyD DEn Cl cut offv)

inductive Fl where | nx | rt (d : D) | bk | ct
abbrev MS := Lo → Sto → Option (Fl × Lo × Sto)
def tK (B : Ba) (b : Nat) (w : W) (fl : Fl) (e' : Lo) (s' : Sto) (Dn : Ends) : Prop := match fl with
  | .nx => ∀ w' σ' H', (w.take b).le w' → Ok B w' s' H' → Sl B w' e' σ' → Dn.nx σ' H'
  | .rt d => ∀ w' v H', (w.take b).le w' → Ok B w' s' H' → VR B w' v d → Dn.rt v H'
  | .bk => ∀ w' σ' H', (w.take b).le w' → Ok B w' s' H' → Sl B w' e' σ' → Dn.bk σ' H'
  | .ct => ∀ w' σ' H', (w.take b).le w' → Ok B w' s' H' → Sl B w' e' σ' → Dn.ct σ' H'
def tS (B : Ba) (b : Nat) (e : Lo) (s : Sto) (fl : Fl) (e' : Lo) (s' : Sto) : TS := fun Dn σ H => ∃ w, Ok B w s H ∧ Sl B w e σ ∧ tK B b w fl e' s' Dn
def NS (X : Cx) (st : Stmt) (m : MS) : Prop := ∀ e s fl e' s' b, m e s = some (fl, e', s') → b ≤ s.length → PS X st (tS (ba X) b e s fl e' s')
def NSs (X : Cx) (st : List Stmt) (m : MS) : Prop := ∀ e s fl e' s' b, m e s = some (fl, e', s') → b ≤ s.length → PSs X st (tS (ba X) b e s fl e' s')
section
variable {X : Cx} {ex a b c tg : Expr} {es : List Expr} {st : Stmt} {rest body orelse : List Stmt} {m ma mb mc : ME} {ms : MA} {mt mu : MT} {pos p : Pos} {M M1 M2 : MS}
theorem NSs.fam (h : NSs X rest M) : PSs X rest (fun Dn σ H => ∃ e s fl e' s' b, M e s = some (fl, e', s') ∧ b ≤ s.length ∧ tS (ba X) b e s fl e' s' Dn σ H) :=
  ⟨fun pins sh σ H Dn I ⟨e, s, fl, e', s', b, hm, hb, q⟩ => (h e s fl e' s' b hm hb).run pins sh σ H Dn I q⟩
theorem W.le.cut {w w' : W} (h : w.le w') (b : Nat) : (w.take b).le w' := (W.take_le w b).trans h
theorem W.cut_eq {w w' : W} {b : Nat} (h : (w.take b).le w') (hb : b ≤ w.ρ.length) : b ≤ w'.ρ.length ∧ w'.ρ.take b = w.ρ.take b := by
  obtain ⟨m, hm⟩ := h.ρ
  have hm : w.ρ.take b ++ m = w'.ρ := hm
  have l : (w.ρ.take b).length = b := by rw [List.length_take]; omega
  constructor
  · rw [← hm, List.length_append, l]; omega
  · rw [← hm, List.take_append_of_le_length (by omega), List.take_of_length_le (by omega)]
theorem W.cut_trans {w w1 w2 : W} {b : Nat} (h : (w.take b).le w1) (hb : b ≤ w.ρ.length) (h2 : (w1.take b).le w2) : (w.take b).le w2 := by
  obtain ⟨_, e⟩ := W.cut_eq h hb
  refine ⟨h.F.trans h2.F, ?_⟩
  have k := h2.ρ
  rw [show (w1.take b).ρ = w1.ρ.take b from rfl, e] at k
  exact k
theorem tK.mono {B : Ba} {b : Nat} {w w' : W} {fl : Fl} {e : Lo} {s : Sto} {Dn : Ends} (h : tK B b w fl e s Dn) (l : (w.take b).le w') (hb : b ≤ w.ρ.length) : tK B b w' fl e s Dn := by
  cases fl with
  | nx => exact fun w2 σ H l2 => h w2 σ H (W.cut_trans l hb l2)
  | rt d => exact fun w2 v H l2 => h w2 v H (W.cut_trans l hb l2)
  | bk => exact fun w2 σ H l2 => h w2 σ H (W.cut_trans l hb l2)
  | ct => exact fun w2 σ H l2 => h w2 σ H (W.cut_trans l hb l2)
theorem pss_no : PSs X rest (fun _ _ _ => False) := ⟨fun _ _ _ _ _ _ h => h.elim⟩
def sNil : MS := fun e s => some (.nx, e, s)
def sSeq (a b : MS) : MS := fun e s => match a e s with
  | some (.nx, e1, s1) => b e1 s1
  | r => r
theorem ns_nil : NSs X [] sNil := fun e s fl e' s' b h hb => by
  cases h
  exact Z.PSs.imp pss_nil fun Dn σ H ⟨w, g, l, k⟩ => k w σ H ((W.le.refl w).cut b) g l
theorem ns_seq (h1 : NS X st M1) (h2 : NSs X rest M2) : NSs X (st :: rest) (sSeq M1 M2) := fun e s fl e' s' b h hb => by
  unfold sSeq at h
  split at h
  · rename_i e1 s1 e0
    refine Z.PSs.imp (pss_cons (h1 _ _ _ _ _ b e0 hb) h2.fam) fun Dn σ H ⟨w, g, l, k⟩ => ?_
    have hw : b ≤ w.ρ.length := by rw [g.lr]; exact hb
    refine ⟨w, g, l, fun w1 σ1 H1 l1 g1 sl1 => ?_⟩
    exact ⟨e1, s1, fl, e', s', b, h, by rw [← g1.lr]; exact (W.cut_eq l1 hw).1, w1, g1, sl1, k.mono l1 hw⟩
  · rename_i r hr
    refine Z.PSs.imp (pss_cons (h1 _ _ _ _ _ b h hb) pss_no) fun Dn σ H ⟨w, g, l, k⟩ => ⟨w, g, l, ?_⟩
    cases fl with
    | nx => exact absurd h (hr _ _)
    | rt d => exact k
    | bk => exact k
    | ct => exact k
def sSet (i : Nat) (m : ME) : MS := fun e s => match m e s with
  | some (d, s1) => some (.nx, e.set i (some d), s1)
  | none => none
theorem ns_set {x : Str} {p' : Pos} (i : Nat) (h : NE X ex m) (hN : X.N.Nodup) (hx : X.N[i]? = some x := by rfl) (hl : Loc X.env.scope x := by first | exact .inl rfl | exact .inr rfl) (hs : swapsWith ex (some (.Name x p')) pos.line X.env = pure false := by rfl)
    (hf : X.fn x = true ∨ X.env.scope.names.lookup x = some .local := by first | exact .inl rfl | exact .inr rfl) : NS X (.Assign [.Name x p'] ex pos) (sSet i m) := fun e s fl e' s' b hm hb => by
  unfold sSet at hm
  split at hm
  · rename_i d s1 e1
    cases hm
    exact Z.PS.imp (ps_set hN hx hl (h _ _ _ _ e1) hs hf) fun Dn σ H ⟨w, g, l, k⟩ => ⟨w, g, l, fun v w1 H1 l1 g1 v1 => k w1 _ H1 (l1.cut b) g1 ((l.up l1).put i v1)⟩
  · cases hm
def sRet (m : ME) : MS := fun e s => match m e s with
  | some (d, s1) => some (.rt d, e, s1)
  | none => none
theorem ns_ret (h : NE X ex m) : NS X (.Return (some ex) pos) (sRet m) := fun e s fl e' s' b hm hb => by
  unfold sRet at hm
  split at hm
  · rename_i d s1 e1
    cases hm
    exact Z.PS.imp (ps_ret (h _ _ _ _ e1)) fun Dn σ H ⟨w, g, l, k⟩ => ⟨w, g, l, fun v w1 H1 l1 g1 v1 => k w1 v H1 (l1.cut b) g1 v1⟩
  · cases hm
def sExpr (m : ME) : MS := fun e s => match m e s with
  | some (_, s1) => some (.nx, e, s1)
  | none => none
theorem ns_expr (h : NE X ex m) (hs : swapsWith ex none pos.line X.env = pure false := by rfl) : NS X (.Expr ex pos) (sExpr m) := fun e s fl e' s' b hm hb => by
  unfold sExpr at hm
  split at hm
  · rename_i d s1 e1
    cases hm
    exact Z.PS.imp (ps_expr (h _ _ _ _ e1) hs) fun Dn σ H ⟨w, g, l, k⟩ => ⟨w, g, l, fun v w1 H1 l1 g1 v1 => k w1 σ H1 (l1.cut b) g1 (l.up l1)⟩
  · cases hm
def sPass : MS := fun e s => some (.nx, e, s)
def sCt : MS := fun e s => some (.ct, e, s)
def sBk : MS := fun e s => some (.bk, e, s)
def sIf (mt : MT) (M1 M2 : MS) : MS := fun e s => match mt e s with
  | some (true, s1) => M1 e s1
  | some (false, s1) => M2 e s1
  | none => none
theorem le_len {B : Ba} {w w' : W} {s s' : Sto} {H H' : Hp} (l : w.le w') (g : Ok B w s H) (g' : Ok B w' s' H') : s.length ≤ s'.length := by
  rw [← g.lr, ← g'.lr]
  exact l.ρ.length_le
theorem ns_if (hc : NT X c mt) (h1 : NSs X body M1) (h2 : NSs X orelse M2) : NS X (.If c body orelse pos) (sIf mt M1 M2) := fun e s fl e' s' b hm hb => by
  have go : ∀ k s1, mt e s = some (k, s1) → (if k then M1 else M2) e s1 = some (fl, e', s') → PS X (.If c body orelse pos) (tS (ba X) b e s fl e' s') := fun k s1 e1 e2 => by
    refine Z.PS.imp (ps_if (hc _ _ _ _ e1) h1.fam h2.fam) fun Dn σ H ⟨w, g, l, q⟩ => ⟨w, g, l, fun w1 H1 l1 g1 => ?_⟩
    have hb1 : b ≤ s1.length := Nat.le_trans hb (le_len l1 g g1)
    have q1 := q.mono (l1.cut b) (by rw [g.lr]; exact hb)
    cases k with
    | true => exact ⟨e, s1, fl, e', s', b, e2, hb1, w1, g1, l.up l1, q1⟩
    | false => exact ⟨e, s1, fl, e', s', b, e2, hb1, w1, g1, l.up l1, q1⟩
  unfold sIf at hm
  split at hm
  · rename_i s1 e1
    exact go true s1 e1 hm
  · rename_i s1 e1
    exact go false s1 e1 hm
  · cases hm

abbrev MG := D → Lo → Option Lo
abbrev MGs := List PyData → Lo → Option Lo
def tG (B : Ba) (vs : List Nat) (s : Sto) (d : D) (e e' : Lo) : TG := fun v σ H Q => ∃ w, Ok B w s H ∧ Sl B w e σ ∧ VR B w v d ∧ ∀ σ', offv vs σ σ' → Sl B w e' σ' → Q σ' H
def tGs (B : Ba) (vs : List Nat) (s : Sto) (xs : List PyData) (e e' : Lo) : TGs := fun us σ H Q => ∃ w, Ok B w s H ∧ Sl B w e σ ∧ DpAll B.K w.F us xs ∧ ∀ σ', offv vs σ σ' → Sl B w e' σ' → Q σ' H
def NG (X : Cx) (tg : Expr) (vs : List Nat) (g : MG) : Prop := ∀ s d e e', g d e = some e' → PG X tg (tG (ba X) vs s d e e')
def NGs (X : Cx) (tgs : List Expr) (vs : List Nat) (g : MGs) : Prop := ∀ s d e e', g d e = some e' → PGs X tgs (tGs (ba X) vs s d e e')
theorem NG.fam {vs : List Nat} {g : MG} (h : NG X tg vs g) : PG X tg (fun v σ H Q => ∃ s d e e', g d e = some e' ∧ tG (ba X) vs s d e e' v σ H Q) :=
  ⟨fun pins sh σ H v u Q I r ⟨s, d, e, e', m, q⟩ => (h s d e e' m).run pins sh σ H v u Q I r q⟩
def gName (k : Nat) : MG := fun d e => some (e.set k (some d))
def gTup (gs : MGs) : MG := fun d e => match d with
  | .d (.tuple xs) => gs xs e
  | _ => none
def gsNil : MGs := fun xs e => match xs with
  | [] => some e
  | _ => none
def gsCons (g : MG) (gs : MGs) : MGs := fun xs e => match xs with
  | x :: xs => match g (.d x) e with
    | some e1 => gs xs e1
    | none => none
  | [] => none
theorem ng_name {y : Str} {vs : List Nat} (k : Nat) (hN : X.N.Nodup) (hv : k ∈ vs := by simp) (hi : X.N[k]? = some y := by rfl) (hx : Loc X.env.scope y := by first | exact .inl rfl | exact .inr rfl)
    (hf : X.fn y = true ∨ X.env.scope.names.lookup y = some .local := by first | exact .inl rfl | exact .inr rfl) : NG X (.Name y pos) vs (gName k) := fun s d e e' h => by
  cases h
  exact Z.PG.imp (pg_name hN hi hx hf) fun v σ H Q ⟨w, g, l, hv1, q⟩ => q _ (Z.offv_set hv) (l.put k hv1)
theorem ngs_nil {vs : List Nat} : NGs X [] vs gsNil := fun s d e e' h => by
  unfold gsNil at h
  split at h
  · cases h
    exact Z.PGs.imp pgs_nil fun us σ H Q ⟨w, g, l, hv1, q⟩ => by
      cases hv1
      exact ⟨rfl, q σ ⟨rfl, fun _ _ => rfl⟩ l⟩
  · cases h
theorem ngs_cons {vs : List Nat} {t : Expr} {ts : List Expr} {g : MG} {gs : MGs} (h1 : NG X t vs g) (h2 : NGs X ts vs gs) (hs : (assignEach (t :: ts) X.env).map (·.2) = assign t X.env :: (assignEach ts X.env).map (·.2) := by rfl) : NGs X (t :: ts) vs (gsCons g gs) := fun s d e e' h => by
  unfold gsCons at h
  split at h
  · rename_i x xs
    split at h
    · rename_i e1 h0
      refine Z.PGs.imp (pgs_cons (h1 s _ _ _ h0) (h2 s _ _ _ h) hs) fun us σ H Q ⟨w, g, l, hv1, q⟩ => ?_
      cases hv1 with
      | cons v1 v2 => exact ⟨_, _, rfl, w, g, l, v1, fun σ1 o1 l1 => ⟨w, g, l1, v2, fun σ2 o2 l2 => q σ2 (o1.trans o2) l2⟩⟩
    · cases h
  · cases h
/-- as many parts as names -/
def gsLenOk (n : Nat) (gs : MGs) : MGs := fun xs e => if xs.length = n then gs xs e else none
theorem ng_tup {vs : List Nat} {ts : List Expr} {k n : Nat} {gs : MGs} (h : NGs X ts vs gs) (hc : X.calm = true := by rfl) (hn : (assignEach ts X.env).length = n := by rfl) (hst : (assignEach ts X.env).findIdx? (·.1) = none := by rfl) : NG X (.Tuple ts k pos) vs (gTup (gsLenOk n gs)) := fun s d e e' hm => by
  unfold gTup at hm
  split at hm
  · rename_i xs
    unfold gsLenOk at hm
    split at hm
    · rename_i hl
      refine Z.PG.imp (pg_tup hc (h s _ _ _ hm) (hn.trans hl.symm) hst) fun v σ H Q ⟨w, g, l, hv1, q⟩ => ?_
      obtain ⟨c, us, rfl, h1, h2⟩ := dp_tup hv1
      exact ⟨c, us, rfl, g.ext.t h1, dpsLen h2, w, g, l, h2, q⟩
    · cases hm
  · cases hm
def sAsg (g : MG) (m : ME) : MS := fun e s => match m e s with
  | some (d, s1) => match g d e with
    | some e1 => some (.nx, e1, s1)
    | none => none
  | none => none
theorem ns_asg {vs : List Nat} {g : MG} (he : NE X ex m) (hg : NG X tg vs g) (hs : swapsWithSole [tg] ex pos.line X.env = pure false := by rfl) (hw : swappedStores [tg] ex X.env = pure none := by rfl) (h1 : (assignEach [tg] X.env).map (·.2) = [assign tg X.env] := by rfl) :
    NS X (.Assign [tg] ex pos) (sAsg g m) := fun e s fl e' s' b hm hb => by
  unfold sAsg at hm
  split at hm
  · rename_i d s1 e1
    split at hm
    · rename_i e2 h2
      cases hm
      exact Z.PS.imp (ps_asg (he _ _ _ _ e1) (hg s' _ _ _ h2) hs hw h1) fun Dn σ H ⟨w, g, l, k⟩ => ⟨w, g, l, fun v w1 H1 l1 g1 v1 => ⟨w1, g1, l.up l1, v1, fun σ' o l' => k w1 σ' H1 (l1.cut b) g1 l'⟩⟩
    · cases hm
  · cases hm
/-- x, y = a, b -/
def sPar (is : List Nat) (ms : MA) : MS := fun e s => match ms e s with
  | some (ds, s1) => if ds.length = is.length then some (.nx, (is.zip ds).foldl (fun e z => e.set z.1 (some z.2)) e, s1) else none
  | none => none
theorem ns_par2 {x y : Str} {px py pt pt2 : Pos} {kt k2 : Nat} (i j : Nat) (ha : NA X [a, b] ms) (hN : X.N.Nodup) (hij : i ≠ j := by decide) (hc : X.calm = true := by rfl) (hx : X.N[i]? = some x := by rfl) (hy : X.N[j]? = some y := by rfl)
    (hlx : X.env.scope.names.lookup x = some .local := by rfl) (hly : X.env.scope.names.lookup y = some .local := by rfl)
    (hw : swappedStores [.Tuple [.Name x px, .Name y py] kt pt] (.Tuple [a, b] k2 pt2) X.env = pure (some [x, y]) := by rfl) (hs : swapsWithSole [.Tuple [.Name x px, .Name y py] kt pt] (.Tuple [a, b] k2 pt2) pos.line X.env = pure false := by rfl) :
    NS X (.Assign [.Tuple [.Name x px, .Name y py] kt pt] (.Tuple [a, b] k2 pt2) pos) (sPar [i, j] ms) := fun e s fl e' s' bb hm hb => by
  unfold sPar at hm
  split at hm
  · rename_i ds s1 e1
    split at hm
    · rename_i hl
      cases hm
      match ds, hl with
      | [d1, d2], _ =>
        refine Z.PS.imp (ps_par hc hN hx hy hij hlx hly (ha _ _ _ _ e1) hw hs) fun Dn σ H ⟨w, g, l, k⟩ => ⟨w, g, l, fun us w1 H1 l1 g1 v1 => ?_⟩
        obtain ⟨u, v, rfl, h1, h2⟩ := vrs2 v1
        exact ⟨u, v, rfl, k w1 _ H1 (l1.cut bb) g1 (((l.up l1).put i h1).put j h2)⟩
    · cases hm
  · cases hm
theorem vrs3 {B : Ba} {w : W} {us : List V} {d d' d2 : D} (h : VRs B w us [d, d', d2]) : ∃ u v z, us = [u, v, z] ∧ VR B w u d ∧ VR B w v d' ∧ VR B w z d2 := by
  match us, h with
  | [u, v, z], ⟨h1, h2, h3, _⟩ => exact ⟨u, v, z, rfl, h1, h2, h3⟩
/-- an object of the store changes: what PSet, methods do -/
def putL (s : Sto) (o : D) (i : Int) (d : D) : Option Sto := match o with
  | .r j => match s[j]? with
    | some (.lst ds) => match ixN ds.length i with
      | some k => some (s.set j (.lst (ds.set k d)))
      | none => none
    | _ => none
  | _ => none
theorem chg_lst {B : Ba} {w : W} {s : Sto} {H : Hp} {v : V} {j : Nat} {ds : List D} (g : Ok B w s H) (hv : VR B w v (.r j)) (hs : s[j]? = some (.lst ds)) :
    ∃ a vs, v = .ref a ∧ H a = some (.lst vs) ∧ VRs B w vs ds ∧ ∀ ds' vs', VRs B w vs' ds' → Ok B w (s.set j (.lst ds')) (upd H a (.lst vs')) := by
  obtain ⟨a, h1, rfl⟩ := hv
  obtain ⟨hF, vs, h2, h3⟩ := g.ce _ _ a hs h1
  exact ⟨a, vs, rfl, h2, h3, fun ds' vs' h => g.chg h1 hF ⟨hF, vs', upd_same, h⟩⟩
def sPut (ma mi mv : ME) : MS := fun e s => match mv e s with
  | some (d, s1) => match ma e s1 with
    | some (o, s2) => match mi e s2 with
      | some (.d (.int i), s3) => match putL s3 o i d with
        | some s4 => some (.nx, e, s4)
        | none => none
      | _ => none
    | none => none
  | none => none
theorem ns_put {tpos : Pos} {mi mv : ME} (hv : NE X ex mv) (ha : NE X a ma) (hi : NE X b mi)
    (hsub : ∀ v, assign (.Subscript a b tpos) X.env v = (do
      let ov ← holding [v] (eval a X.env)
      let iv ← holding [v, ov] (eval b X.env)
      standAt tpos
      holding [v, ov, iv] (setItem ov iv v)
      release [v, ov, iv] []) := by intro _; rfl)
    (hs : swapsWithSole [.Subscript a b tpos] ex pos.line X.env = pure false := by rfl) (hw : swappedStores [.Subscript a b tpos] ex X.env = pure none := by rfl) (h1 : (assignEach [.Subscript a b tpos] X.env).map (·.2) = [assign (.Subscript a b tpos) X.env] := by rfl) :
    NS X (.Assign [.Subscript a b tpos] ex pos) (sPut ma mi mv) := fun e s fl e' s' bb hm hb => by
  unfold sPut at hm
  split at hm
  · rename_i d s1 e1
    split at hm
    · rename_i o s2 e2
      split at hm
      · rename_i i s3 e3
        split at hm
        · rename_i s4 e4
          cases hm
          refine Z.PS.imp (ps_asg (hv _ _ _ _ e1) (pg_sub (ha _ _ _ _ e2) (hi _ _ _ _ e3) set_list hsub) hs hw h1) fun Dn σ H ⟨w, g, l, k⟩ => ⟨w, g, l, fun v w1 H1 l1 g1 v1 => ⟨w1, g1, l.up l1, fun u w2 H2 l2 g2 v2 => ⟨w2, g2, (l.up l1).up l2, fun z w3 H3 l3 g3 v3 => ?_⟩⟩⟩
          cases vr_int v3
          unfold putL at e4
          split at e4
          · rename_i j
            split at e4
            · rename_i ds e5
              split at e4
              · rename_i kk e6
                cases e4
                obtain ⟨a, vs, rfl, h4, h5, h6⟩ := chg_lst g3 (v2.up l3) e5
                refine ⟨a, vs, i, kk, rfl, rfl, h4, by rw [h5.len]; exact e6, ?_⟩
                exact k w3 σ _ (((l1.trans l2).trans l3).cut bb) (h6 _ _ (h5.set ((v1.up l2).up l3) kk)) (((l.up l1).up l2).up l3)
              · cases e4
            · cases e4
          · cases e4
        · cases hm
      · cases hm
    · cases hm
  · cases hm
/-- x op= e, for a name -/
def IOpS (X : Cx) (op : Operator) (f : FB) : Prop := ∀ s a b z s', f s a b = some (z, s') → ∃ q, OpR X (inplaceOp op) q ∧ BiN (ba X) q s a b z s'
def sAug (i : Nat) (f : FB) (m : ME) : MS := fun e s => match e[i]? with
  | some (some u) => match m e s with
    | some (d, s1) => match f s1 u d with
      | some (z, s2) => some (.nx, e.set i (some z), s2)
      | none => none
    | none => none
  | _ => none
theorem ns_aug {op : Operator} {f : FB} {x : Str} {p' : Pos} (ho : IOpS X op f) (i : Nat) (h : NE X ex m) (hN : X.N.Nodup) (hx : X.N[i]? = some x := by rfl) (hl : Loc X.env.scope x := by first | exact .inl rfl | exact .inr rfl)
    (hf : X.fn x = true ∨ X.env.scope.names.lookup x = some .local := by first | exact .inl rfl | exact .inr rfl) : NS X (.AugAssign (.Name x p') op ex pos) (sAug i f m) := fun e s fl e' s' b hm hb => by
  unfold sAug at hm
  split at hm
  · rename_i u e0
    split at hm
    · rename_i d s1 e1
      split at hm
      · rename_i z s2 e2
        cases hm
        obtain ⟨q, hq, hB⟩ := ho _ _ _ _ _ e2
        refine Z.PS.imp (ps_aug hN hx hl (h _ _ _ _ e1) hq hf) fun Dn σ H ⟨w, g, l, k⟩ => ?_
        obtain ⟨v0, h0, hv0⟩ := l.sl i u e0
        refine ⟨v0, h0, w, g, l, fun v w1 H1 l1 g1 v1 => ?_⟩
        exact hB v0 v w1 H1 _ g1 (hv0.up l1) v1 fun x w2 H2 l2 g2 v2 => k w2 _ H2 ((l1.trans l2).cut b) g2 (((l.up l1).up l2).put i v2)
      · cases hm
    · cases hm
  · cases hm
theorem iop0 {op : Operator} {f : Int → Int → Int} (h : OpR X (inplaceOp op) (rI0 fun i j => .int (f i j))) : IOpS X op (i2 fun i j => some (f i j)) := fun s a b z s' e => by
  obtain ⟨i, j, k, rfl, rfl, e1, rfl, rfl⟩ := i2_cases e
  cases e1
  exact ⟨_, h, BiN.int (show Z.flat (.int _) (.int _) from rfl)⟩
theorem io_xor : IOpS X .BitXor oXor := iop0 iop_xor
/-- += : a number, a text; a list grows -/
def oIadd : FB := fun s a b => match a, b with
  | .d (.int i), .d (.int j) => some (.d (.int (i + j)), s)
  | .d (.str x), .d (.str y) => if x.length + y.length ≤ lim then some (.d (.str (x ++ y)), s) else none
  | .r j, b => match s[j]? with
    | some (.lst ds) => match asL s b with
      | some es => if ds.length + es.length ≤ lim then some (.r j, s.set j (.lst (ds ++ es))) else none
      | none => none
    | _ => none
  | _, _ => none
theorem io_add : IOpS X .Add oIadd := fun s a b z s' e => by
  unfold oIadd at e
  split at e
  · cases e
    exact ⟨_, iop_add, BiN.int (show Z.flat (.int _) (.int _) from rfl)⟩
  · rename_i x y
    split at e
    · rename_i hl
      cases e
      refine ⟨_, iop_add_str, fun u v w H Q g h1 h2 k => ?_⟩
      cases vr_str h1
      cases vr_str h2
      exact ⟨x, y, rfl, rfl, Nat.le_trans hl (Nat.le_of_lt lim_lt), k _ w H (W.le.refl w) g vs'⟩
    · cases e
  · rename_i j b'
    split at e
    · rename_i ds e1
      split at e
      · rename_i es e2
        split at e
        · rename_i hl
          cases e
          refine ⟨_, Z.ip_extQ, fun u v w H Q g h1 h2 k => ?_⟩
          obtain ⟨p2, zs, rfl, q2, r2⟩ := asL_ok e2 g h2
          have h1' := h1
          obtain ⟨a, vs, rfl, h4, h5, h6⟩ := chg_lst g h1 e1
          exact ⟨a, p2, vs, zs, rfl, rfl, h4, q2, by rw [h5.len, r2.len]; exact Nat.le_trans hl (Nat.le_of_lt lim_lt), k _ w _ (W.le.refl w) (h6 _ _ (h5.app r2)) h1'⟩
        · cases e
      · cases e
    · cases e
  · cases e
end
end N

namespace N
open PySem L2 PyProof.Rows
open Z (Ext dpUp dpsUp dpsLen dpsGet DxO KyD DEn Cl cut offv wipeE)

structure Safe (s s' : Sto) : Prop where
  le : s.length ≤ s'.length
  ce : ∀ (j : Nat) (c : Cell), j < s.length → s'[j]? = some c → s[j]? = some c ∨ c.below s.length
open Classical in
noncomputable def trim (s s' : Sto) : Sto := if Safe s s' then s'.take s.length else s'
/-- .. where slots refer to what is below -/
def LoBelow (n : Nat) (e : Lo) : Prop := ∀ (i j : Nat), e[i]? = some (some (D.r j)) → j < n
open Classical in
noncomputable def trimE (s : Sto) (e : Lo) (s' : Sto) : Sto := if LoBelow s.length e then trim s s' else s'
def wipeN (e : Lo) : List Nat → Lo
  | [] => e
  | v :: vs => (wipeN e vs).set v none
theorem wipeN_len (e : Lo) : ∀ vs : List Nat, (wipeN e vs).length = e.length
  | [] => rfl
  | v :: vs => by unfold wipeN; rw [List.length_set, wipeN_len e vs]
theorem wipeN_get {e : Lo} {i : Nat} {d : D} : ∀ {vs : List Nat}, (wipeN e vs)[i]? = some (some d) → e[i]? = some (some d) ∧ i ∉ vs
  | [], h => ⟨h, by simp⟩
  | v :: vs, h => by
    unfold wipeN at h
    by_cases hi : i = v
    · subst hi
      by_cases hv : i < (wipeN e vs).length
      · rw [List.getElem?_set_self hv] at h
        cases h
      · rw [List.getElem?_eq_none (by simpa using hv)] at h
        cases h
    · rw [List.getElem?_set_ne (Ne.symm hi)] at h
      obtain ⟨z1, z2⟩ := wipeN_get h
      exact ⟨z1, by simp only [List.mem_cons, not_or]; exact ⟨hi, z2⟩⟩
section
variable {B : Ba} {w w' : W} {s s' : Sto} {H H' : Hp} {e : Lo} {σ : L2.St}
theorem Safe.ok (h : Safe s s') (g : Ok B w s H) (g' : Ok B w' s' H') : Ok B (w'.take s.length) (s'.take s.length) H' :=
  g'.cut fun j c hj hc => (h.ce j c hj hc).elim (fun h2 => by
    have hj2 : j < w.ρ.length := by rw [g.lr]; exact hj
    have := (g.ce j c _ h2 (List.getElem?_eq_getElem hj2)).isBelow
    rwa [g.lr] at this) id
theorem trim_cases (g : Ok B w s H) (g' : Ok B w' s' H') : (trim s s' = s' ∧ True) ∨ (trim s s' = s'.take s.length ∧ s.length ≤ s'.length ∧ Ok B (w'.take s.length) (s'.take s.length) H') := by
  unfold trim
  split
  · rename_i h
    exact .inr ⟨rfl, h.le, h.ok g g'⟩
  · exact .inl ⟨rfl, trivial⟩
/-- behind a turn -/
theorem trimE_ok (g : Ok B w s H) (g' : Ok B w' s' H') (l : Sl B w' e σ) : ∃ w2, w2.le w' ∧ (∀ b, b ≤ s.length → (w'.take b).le w2) ∧ Ok B w2 (trimE s e s') H' ∧ Sl B w2 e σ ∧ (s.length ≤ s'.length → s.length ≤ (trimE s e s').length) := by
  unfold trimE
  split
  · rename_i hl
    rcases trim_cases g g' with ⟨h, _⟩ | ⟨h, h1, h2⟩
    · rw [h]
      exact ⟨w', W.le.refl _, fun b hb => W.take_le _ _, g', l, id⟩
    · rw [h]
      refine ⟨w'.take s.length, W.take_le _ _, fun b hb => ⟨Ext.refl _, ?_⟩, h2, l.cut hl, fun _ => by rw [List.length_take]; omega⟩
      show w'.ρ.take b <+: w'.ρ.take s.length
      rw [show w'.ρ.take b = (w'.ρ.take s.length).take b by rw [List.take_take, Nat.min_eq_left hb]]
      exact List.take_prefix _ _
  · exact ⟨w', W.le.refl _, fun b hb => W.take_le _ _, g', l, id⟩
end

/-- the list that is walked stands as it was -/
def chkOk : Option (Nat × List D) → Sto → Prop
  | none, _ => True
  | some (j, ds), s => s[j]? = some (.lst ds)
abbrev MI := Lo → Sto → Option (List D × Option (Nat × List D) × Sto)
def WkN (B : Ba) (w0 : W) (J : It) (items : List D) (ck : Option (Nat × List D)) : Prop := ∀ w s H, w0.le w → Ok B w s H → chkOk ck s →
  (∀ i x, items[i]? = some x → J.go i H ∧ ∀ v H', J.yld i H v H' → ∃ w', w.le w' ∧ Ok B w' s H' ∧ VR B w' v x) ∧ J.stop items.length H
def tI (B : Ba) (e : Lo) (s : Sto) (items : List D) (ck : Option (Nat × List D)) (s1 : Sto) : TI := fun σ H R => ∃ w, Ok B w s H ∧ Sl B w e σ ∧ ∀ J w1 H1, w.le w1 → Ok B w1 s1 H1 → chkOk ck s1 → WkN B w1 J items ck → R J H1
def NI (X : Cx) (tg it : Expr) (m : MI) : Prop := ∀ e s items ck s1, m e s = some (items, ck, s1) → PI X tg it (tI (ba X) e s items ck s1)
section
variable {X : Cx} {ex a b c tg iter elt : Expr} {es ifs : List Expr} {st : Stmt} {rest body orelse : List Stmt} {m ma mb mc : ME} {ms : MA} {mt mu : MT} {pos p : Pos} {M M1 M2 : MS}
theorem PI.imp {t t' : TI} (h : PI X tg ex t) (k : ∀ σ H Q, t' σ H Q → t σ H Q) : PI X tg ex t' := Z.PI.imp h k
theorem NI.fam {mi : MI} (h : NI X tg iter mi) : PI X tg iter (fun σ H R => ∃ e s items ck s1, mi e s = some (items, ck, s1) ∧ tI (ba X) e s items ck s1 σ H R) :=
  ⟨fun pins sh σ H R I ⟨e, s, items, ck, s1, hm, q⟩ => (h e s items ck s1 hm).run pins sh σ H R I q⟩
/-- over a list -/
def iLst (m : ME) : MI := fun e s => match m e s with
  | some (.d (.list xs), s1) => some (xs.map .d, none, s1)
  | some (.r j, s1) => match s1[j]? with
    | some (.lst ds) => some (ds, some (j, ds), s1)
    | _ => none
  | _ => none
theorem ni_lst (h : NE X ex m) : NI X tg ex (iLst m) := fun e s items ck s1 hm => by
  unfold iLst at hm
  split at hm
  · rename_i xs s2 e1
    cases hm
    refine PI.imp (pi_list (h _ _ _ _ e1)) fun σ H R ⟨w, g, l, k⟩ => ⟨w, g, l, fun v w1 H1 l1 g1 v1 => ?_⟩
    cases v1 with
    | @lst a vs _ hs ha =>
      refine ⟨a, rfl, ⟨vs, g1.ext.l hs⟩, k _ w1 H1 l1 g1 trivial fun w2 s2 H2 l2 g2 _ => ?_⟩
      have hs2 : SqL X.K H2 a vs := g2.ext.l (l2.F.l hs)
      refine ⟨fun i x hx => ?_, _, hs2, by rw [List.length_map, dpsLen ha]; exact Nat.le_refl _⟩
      rw [List.getElem?_map] at hx
      obtain ⟨y, hy, rfl⟩ := Option.map_eq_some_iff.mp hx
      obtain ⟨v, h1, h2⟩ := dpsGet ha hy
      refine ⟨⟨_, v, hs2, h1⟩, fun v' H' ⟨e3, hv⟩ => ?_⟩
      subst e3
      have : v = v' := Option.some.inj (h1.symm.trans (hv _ hs2))
      subst this
      exact ⟨w2, W.le.refl _, g2, dpUp l2.F _ _ h2⟩
  · rename_i j s2 e1
    split at hm
    · rename_i ds e2
      cases hm
      refine PI.imp (pi_list (h _ _ _ _ e1)) fun σ H R ⟨w, g, l, k⟩ => ⟨w, g, l, fun v w1 H1 l1 g1 v1 => ?_⟩
      obtain ⟨a, h1, rfl⟩ := v1
      obtain ⟨_, vs, h2, h3⟩ := g1.ce _ _ a e2 h1
      refine ⟨a, rfl, ⟨vs, .of h2⟩, k _ w1 H1 l1 g1 e2 fun w2 s2 H2 l2 g2 c2 => ?_⟩
      obtain ⟨_, us, h4, h5⟩ := g2.ce _ _ a c2 (pre_get l2.ρ h1)
      have hs2 : SqL X.K H2 a us := .of h4
      refine ⟨fun i x hx => ?_, _, hs2, by rw [h5.len]; exact Nat.le_refl _⟩
      obtain ⟨v, h6, h7⟩ := h5.get hx
      refine ⟨⟨_, v, hs2, h6⟩, fun v' H' ⟨e3, hv⟩ => ?_⟩
      subst e3
      have : v = v' := Option.some.inj (h6.symm.trans (hv _ hs2))
      subst this
      exact ⟨w2, W.le.refl _, g2, h7⟩
    · cases hm
  · cases hm
/-- over a tuple -/
def iTupl (m : ME) : MI := fun e s => match m e s with
  | some (.d (.tuple xs), s1) => some (xs.map .d, none, s1)
  | _ => none
theorem ni_tup (h : NE X ex m) : NI X tg ex (iTupl m) := fun e s items ck s1 hm => by
  unfold iTupl at hm
  split at hm
  · rename_i xs s2 e1
    cases hm
    refine PI.imp (pi_tup (h _ _ _ _ e1)) fun σ H R ⟨w, g, l, k⟩ => ⟨w, g, l, fun v w1 H1 l1 g1 v1 => ?_⟩
    obtain ⟨a, vs, rfl, hs, ha⟩ := dp_tup v1
    refine ⟨a, rfl, ⟨vs, g1.ext.t hs⟩, k _ w1 H1 l1 g1 trivial fun w2 s2 H2 l2 g2 _ => ?_⟩
    have hs2 : SqT X.K H2 a vs := g2.ext.t (l2.F.t hs)
    refine ⟨fun i x hx => ?_, _, hs2, by rw [List.length_map, dpsLen ha]; exact Nat.le_refl _⟩
    rw [List.getElem?_map] at hx
    obtain ⟨y, hy, rfl⟩ := Option.map_eq_some_iff.mp hx
    obtain ⟨v, h1, h2⟩ := dpsGet ha hy
    refine ⟨⟨_, v, hs2, h1⟩, fun v' H' ⟨e3, hv⟩ => ?_⟩
    subst e3
    have : v = v' := Option.some.inj (h1.symm.trans (hv _ hs2))
    subst this
    exact ⟨w2, W.le.refl _, g2, dpUp l2.F _ _ h2⟩
  · cases hm
/-- a tuple or a list, as it comes -/
def iSeq (m : ME) : MI := fun e s => match m e s with
  | some (.d (.tuple xs), s1) => some (xs.map .d, none, s1)
  | _ => iLst m e s
theorem ni_seq (h : NE X ex m) : NI X tg ex (iSeq m) := fun e s items ck s1 hm => by
  unfold iSeq at hm
  split at hm
  · rename_i xs s2 e1
    exact ni_tup h e s items ck s1 (by unfold iTupl; rw [e1]; exact hm)
  · exact ni_lst h e s items ck s1 hm
def rngD (lo : Int) (n : Nat) : List D := (List.range n).map fun k => .d (.int (lo + (k : Nat)))
theorem rngD_len {lo : Int} {n : Nat} : (rngD lo n).length = n := by unfold rngD; simp
theorem rngD_get {lo : Int} {n k : Nat} (h : k < n) : (rngD lo n)[k]? = some (.d (.int (lo + (k : Nat)))) := by
  unfold rngD
  rw [List.getElem?_map, List.getElem?_range h]
  rfl
theorem wk_rng {B : Ba} {w0 : W} {lo : Int} {n : Nat} : WkN B w0 (Itr lo n) (rngD lo n) none := fun w s H l g _ => by
  refine ⟨fun k x hx => ?_, Nat.le_of_eq rngD_len.symm⟩
  have hk : k < n := by
    have := (List.getElem?_eq_some_iff.mp hx).1
    rwa [rngD_len] at this
  rw [rngD_get hk] at hx
  cases hx
  refine ⟨hk, fun v H' ⟨e1, e2⟩ => ?_⟩
  subst e1 e2
  exact ⟨w, W.le.refl _, g, vi⟩
def iRng1 (ms : MA) : MI := fun e s => match ms e s with
  | some ([.d (.int j)], s1) => if -(2 ^ 62) ≤ j ∧ j < 2 ^ 62 then some (rngD 0 j.toNat, none, s1) else none
  | _ => none
def iRng2 (ms : MA) : MI := fun e s => match ms e s with
  | some ([.d (.int i), .d (.int j)], s1) => if -(2 ^ 62) ≤ i ∧ i < 2 ^ 62 ∧ -(2 ^ 62) ≤ j ∧ j < 2 ^ 62 then some (rngD i (j - i).toNat, none, s1) else none
  | _ => none
theorem ni_rng1 (h : NA X [a] ms) (hm : X.mg "range" = none) (hg : Gl X "range" := by rfl) (hs : starEach [a] X.env = [(false, eval a X.env)] := by rfl) : NI X tg (.Call (.Name "range" p) [a] [] pos) (iRng1 ms) := fun e s items ck s1 hmm => by
  unfold iRng1 at hmm
  split at hmm
  · rename_i j s2 e1
    split at hmm
    · rename_i hj
      cases hmm
      refine PI.imp (pi_range1 hg hm (h _ _ _ _ e1) hs) fun σ H R ⟨w, g, l, k⟩ => ⟨w, g, l, fun us w1 H1 l1 g1 v1 => ?_⟩
      obtain ⟨u, rfl, h1⟩ := vrs1 v1
      cases vr_int h1
      exact ⟨j, rfl, hj.1, hj.2, k _ w1 H1 l1 g1 trivial wk_rng⟩
    · cases hmm
  · cases hmm
theorem ni_rng2 (h : NA X [a, b] ms) (hm : X.mg "range" = none) (hg : Gl X "range" := by rfl) (hs : starEach [a, b] X.env = [(false, eval a X.env), (false, eval b X.env)] := by rfl)
    (hs2 : starEach [b] X.env = [(false, eval b X.env)] := by rfl) : NI X tg (.Call (.Name "range" p) [a, b] [] pos) (iRng2 ms) := fun e s items ck s1 hmm => by
  unfold iRng2 at hmm
  split at hmm
  · rename_i i j s2 e1
    split at hmm
    · rename_i hj
      cases hmm
      refine PI.imp (pi_range2 hg hm (h _ _ _ _ e1) hs hs2) fun σ H R ⟨w, g, l, k⟩ => ⟨w, g, l, fun us w1 H1 l1 g1 v1 => ?_⟩
      obtain ⟨u, v, rfl, h1, h2⟩ := vrs2 v1
      cases vr_int h1
      cases vr_int h2
      exact ⟨i, j, rfl, hj, k _ w1 H1 l1 g1 trivial wk_rng⟩
    · cases hmm
  · cases hmm

/-- one turn: the target, the block, what is forgotten behind it -/
noncomputable def turnF (g : MG) (M : MS) (dead : List Nat) (x : D) : MS := fun e s => match g x e with
  | some e1 => match M e1 s with
    | some (.nx, e2, s2) => some (.nx, wipeN e2 dead, trimE s (wipeN e2 dead) s2)
    | some (.ct, e2, s2) => some (.nx, wipeN e2 dead, trimE s (wipeN e2 dead) s2)
    | r => r
  | none => none
open Classical in
noncomputable def forL (ck : Option (Nat × List D)) (T : D → MS) : List D → MS
  | [] => fun e s => if chkOk ck s then some (.nx, e, s) else none
  | x :: xs => fun e s => if chkOk ck s then match T x e s with
      | some (.nx, e1, s1) => forL ck T xs e1 s1
      | some (.bk, e1, s1) => some (.nx, e1, s1)
      | some (.rt d, e1, s1) => some (.rt d, e1, s1)
      | _ => none
    else none
noncomputable def sFor (mi : MI) (g : MG) (M : MS) (dead : List Nat) : MS := fun e s => match mi e s with
  | some (items, ck, s1) => forL ck (turnF g M dead) items e s1
  | none => none
theorem W.le.of_take {w w' : W} {n : Nat} (h : (w.take n).le w') (hn : w.ρ.length = n) : w.le w' := by
  refine ⟨h.F, ?_⟩
  have k := h.ρ
  rw [show (w.take n).ρ = w.ρ.take n from rfl, List.take_of_length_le (by omega)] at k
  exact k
theorem W.take_take {w w' : W} {b n : Nat} (h : (w.take n).le w') (hb : b ≤ n) : (w.take b).le w' := by
  refine ⟨h.F, List.IsPrefix.trans ?_ h.ρ⟩
  show w.ρ.take b <+: w.ρ.take n
  rw [show w.ρ.take b = (w.ρ.take n).take b by rw [List.take_take, Nat.min_eq_left hb]]
  exact List.take_prefix _ _
theorem ns_for {mi : MI} {vs : List Nat} {g : MG} {dead : List Nat} (hi : NI X tg iter mi) (hg : NG X tg vs g) (hb : NSs X body M) (hp : PassesOwn (model X.prog X.w) X.A X.env X.xe) (hc : X.calm = true := by rfl) (hs : ∀ x, foldedSetIterable iter X.env x = pure x := by intro _; rfl) :
    NS X (.For tg iter body [] pos) (sFor mi g M dead) := fun e s fl e' s' b hm hbs => by
  unfold sFor at hm
  split at hm
  · rename_i items ck s1 e1
    refine Z.PS.imp (ps_for hp hc (hi _ _ _ _ _ e1) hg.fam hb.fam hs) fun Dn σ H ⟨w, G, l, k⟩ => ⟨w, G, l, fun J w1 H1 l1 g1 ck1 wk => ?_⟩
    have hn : w1.ρ.length = s1.length := g1.lr
    have hbn : b ≤ s1.length := Nat.le_trans hbs (le_len l1 G g1)
    have k1 := k.mono (l1.cut b) (by rw [G.lr]; exact hbs)
    refine ⟨fun i m σ' H' => m = items.length - i ∧ i ≤ items.length ∧ ∃ e2 s2 w2, forL ck (turnF g M dead) (items.drop i) e2 s2 = some (fl, e', s') ∧ w1.le w2 ∧ s1.length ≤ s2.length ∧ Ok (ba X) w2 s2 H' ∧ Sl (ba X) w2 e2 σ',
      ⟨_, rfl, Nat.zero_le _, e, s1, w1, hm, W.le.refl _, Nat.le_refl _, g1, l.up l1⟩, ?_⟩
    rintro i m σ' H' ⟨rfl, hi', e2, s2, w2, hf, l2, n2, g2, sl2⟩
    by_cases hlt : i < items.length
    · rw [List.drop_eq_getElem_cons hlt] at hf
      unfold forL at hf
      split at hf
      · rename_i hck
        obtain ⟨wk1, _⟩ := wk w2 s2 H' l2 g2 hck
        obtain ⟨go, yl⟩ := wk1 i items[i] (List.getElem?_eq_getElem hlt)
        refine .inr ⟨go, fun σ3 H3 => ∃ e3 s3 w3, forL ck (turnF g M dead) (items.drop (i + 1)) e3 s3 = some (fl, e', s') ∧ w1.le w3 ∧ s1.length ≤ s3.length ∧ Ok (ba X) w3 s3 H3 ∧ Sl (ba X) w3 e3 σ3,
          fun σ3 H3 h3 => ⟨items.length - (i + 1), by omega, rfl, hlt, h3⟩, fun v H4 y => ?_⟩
        obtain ⟨w4, l4, g4, v4⟩ := yl v H4 y
        have sl4 := sl2.up l4
        have l14 := l2.trans l4
        have n4 : s1.length ≤ w4.ρ.length := by rw [g4.lr]; exact n2
        -- one turn
        unfold turnF at hf
        cases hgx : g items[i] e2 with
        | none => rw [hgx] at hf; cases hf
        | some e3 =>
          rw [hgx] at hf
          refine ⟨s2, _, _, _, hgx, w4, g4, sl4, v4, fun σ5 o l5 => ?_⟩
          cases hM : M e3 s2 with
          | none => simp only [hM] at hf; cases hf
          | some z =>
            obtain ⟨f2, e5, s5⟩ := z
            simp only [hM] at hf
            refine ⟨_, _, _, _, _, s1.length, hM, n2, w4, g4, l5, ?_⟩
            have back : ∀ {w' : W}, (w4.take s1.length).le w' → w1.le w' := fun h => by
              have h0 : (w1.take s1.length).le w4 := l14.cut _
              exact W.le.of_take (W.cut_trans h0 (by omega) h) hn
            have next : ∀ w' σ' H', (w4.take s1.length).le w' → Ok (ba X) w' s5 H' → Sl (ba X) w' e5 σ' → forL ck (turnF g M dead) (items.drop (i + 1)) (wipeN e5 dead) (trimE s2 (wipeN e5 dead) s5) = some (fl, e', s') →
                ∃ e3 s3 w3, forL ck (turnF g M dead) (items.drop (i + 1)) e3 s3 = some (fl, e', s') ∧ w1.le w3 ∧ s1.length ≤ s3.length ∧ Ok (ba X) w3 s3 H' ∧ Sl (ba X) w3 e3 σ' := fun w' σ' H' lw gw sw hf' => by
              have sw2 : Sl (ba X) w' (wipeN e5 dead) σ' := sw.wk (wipeN_len _ _) fun i d h => (wipeN_get h).1
              obtain ⟨w6, a1, a2, a3, a4, a5⟩ := trimE_ok (s := s2) g4 gw sw2
              refine ⟨_, _, w6, hf', ?_, ?_, a3, a4⟩
              · have h0 : (w1.take s1.length).le w' := (back lw).cut _
                exact W.le.of_take (W.cut_trans h0 (by omega) (a2 _ n2)) hn
              · have h1 := (W.cut_eq lw n4).1
                have h2 := (W.cut_eq (a2 _ n2) h1).1
                rw [a3.lr] at h2
                exact h2
            cases f2 with
            | nx => exact fun w' σ' H' lw gw sw => next w' σ' H' lw gw sw hf
            | ct => exact fun w' σ' H' lw gw sw => next w' σ' H' lw gw sw hf
            | rt d =>
              cases hf
              exact fun w' v H' lw gw vw => k1 w' v H' ((back lw).cut b) gw vw
            | bk =>
              cases hf
              exact fun w' σ' H' lw gw sw => k1 w' σ' H' ((back lw).cut b) gw sw
      · cases hf
    · have e : i = items.length := by omega
      subst e
      rw [List.drop_length] at hf
      unfold forL at hf
      split at hf
      · rename_i hck
        cases hf
        obtain ⟨_, w2'⟩ := wk w2 _ H' l2 g2 hck
        exact .inl ⟨w2', k1 w2 σ' H' (l2.cut b) g2 sl2⟩
      · cases hf
  · cases hm

noncomputable def whileL (mt : MT) (M : MS) (dead : List Nat) : Nat → MS
  | 0 => fun _ _ => none
  | n + 1 => fun e s => match mt e s with
    | some (true, s1) => match M e s1 with
      | some (.nx, e2, s2) => whileL mt M dead n (wipeN e2 dead) (trimE s (wipeN e2 dead) s2)
      | some (.ct, e2, s2) => whileL mt M dead n (wipeN e2 dead) (trimE s (wipeN e2 dead) s2)
      | some (.bk, e2, s2) => some (.nx, e2, s2)
      | some (.rt d, e2, s2) => some (.rt d, e2, s2)
      | none => none
    | some (false, s1) => some (.nx, e, s1)
    | none => none
noncomputable def sWhile (mt : MT) (M : MS) (dead : List Nat) : MS := fun e s => whileL mt M dead (2 ^ 64) e s
theorem ns_while {dead : List Nat} (hc : NT X c mt) (hb : NSs X body M) (hp : PassesOwn (model X.prog X.w) X.A X.env X.xe) : NS X (.While c body [] pos) (sWhile mt M dead) := fun e s fl e' s' b hm hbs => by
  refine Z.PS.imp (ps_while hp hc.fam hb.fam) fun Dn σ H ⟨w, G, l, k⟩ => ?_
  have hn : w.ρ.length = s.length := G.lr
  refine ⟨fun m σ' H' => ∃ e2 s2 w2, whileL mt M dead m e2 s2 = some (fl, e', s') ∧ w.le w2 ∧ s.length ≤ s2.length ∧ Ok (ba X) w2 s2 H' ∧ Sl (ba X) w2 e2 σ',
    ⟨_, e, s, w, hm, W.le.refl _, Nat.le_refl _, G, l⟩, ?_⟩
  rintro m σ' H' ⟨e2, s2, w2, hf, l2, n2, g2, sl2⟩
  cases m with
  | zero => cases hf
  | succ m =>
    unfold whileL at hf
    cases ht : mt e2 s2 with
    | none => rw [ht] at hf; cases hf
    | some z =>
      obtain ⟨kk, s3⟩ := z
      rw [ht] at hf
      refine ⟨e2, s2, kk, s3, ht, w2, g2, sl2, fun w3 H3 l3 g3 => ?_⟩
      have l13 := l2.trans l3
      have sl3 := sl2.up l3
      cases kk with
      | false =>
        dsimp only
        rw [if_neg Bool.false_ne_true]
        cases hf
        exact k w3 σ' H3 (l13.cut b) g3 sl3
      | true =>
        dsimp only
        rw [if_pos rfl]
        have n3 : s.length ≤ s3.length := Nat.le_trans n2 (le_len l3 g2 g3)
        refine ⟨fun σ5 H5 => ∃ e2 s2 w2, whileL mt M dead m e2 s2 = some (fl, e', s') ∧ w.le w2 ∧ s.length ≤ s2.length ∧ Ok (ba X) w2 s2 H5 ∧ Sl (ba X) w2 e2 σ5, fun σ5 H5 h5 => ⟨m, Nat.lt_succ_self m, h5⟩, ?_⟩
        cases hM : M e2 s3 with
        | none => simp only [hM] at hf; cases hf
        | some z =>
          obtain ⟨f2, e5, s5⟩ := z
          simp only [hM] at hf
          refine ⟨_, _, _, _, _, s.length, hM, n3, w3, g3, sl3, ?_⟩
          have n3' : s.length ≤ w3.ρ.length := by rw [g3.lr]; exact n3
          have back : ∀ {w' : W}, (w3.take s.length).le w' → w.le w' := fun h => by
            have h0 : (w.take s.length).le w3 := l13.cut _
            exact W.le.of_take (W.cut_trans h0 (by omega) h) hn
          have next : ∀ w' σ' H', (w3.take s.length).le w' → Ok (ba X) w' s5 H' → Sl (ba X) w' e5 σ' → whileL mt M dead m (wipeN e5 dead) (trimE s2 (wipeN e5 dead) s5) = some (fl, e', s') →
              ∃ e2 s2 w2, whileL mt M dead m e2 s2 = some (fl, e', s') ∧ w.le w2 ∧ s.length ≤ s2.length ∧ Ok (ba X) w2 s2 H' ∧ Sl (ba X) w2 e2 σ' := fun w' σ' H' lw gw sw hf' => by
            have sw2 : Sl (ba X) w' (wipeN e5 dead) σ' := sw.wk (wipeN_len _ _) fun i d h => (wipeN_get h).1
            obtain ⟨w6, a1, a2, a3, a4, a5⟩ := trimE_ok (s := s2) g2 gw sw2
            refine ⟨_, _, w6, hf', ?_, ?_, a3, a4⟩
            · have h0 : (w.take s.length).le w' := (back lw).cut _
              exact W.le.of_take (W.cut_trans h0 (by omega) (a2 _ n2)) hn
            · have h1 := (W.cut_eq lw n3').1
              have h2 := (W.cut_eq (a2 _ n2) h1).1
              rw [a3.lr] at h2
              exact h2
          cases f2 with
          | nx => exact fun w' σ' H' lw gw sw => next w' σ' H' lw gw sw hf
          | ct => exact fun w' σ' H' lw gw sw => next w' σ' H' lw gw sw hf
          | rt d =>
            cases hf
            exact fun w' v H' lw gw vw => k w' v H' ((back lw).cut b) gw vw
          | bk =>
            cases hf
            exact fun w' σ' H' lw gw sw => k w' σ' H' ((back lw).cut b) gw sw
end
end N

namespace N
open PySem L2 PyProof.Rows
open Z (Ext dpUp dpsUp dpsLen dpsGet DxO KyD DEn Cl cut offv bl Dfn)

open Classical in
noncomputable def lcL (k : Nat) (ck : Option (Nat × List D)) (g : MG) (mt : MT) (el : ME) (e0 : Lo) : List D → Sto → Option Sto
  | [], s => if chkOk ck s then some s else none
  | x :: xs, s => if chkOk ck s then match g x e0 with
      | some e1 => match mt e1 s with
        | some (true, s1) => match el e1 s1 with
          | some (y, s2) => match s2[k]? with
            | some (.lst acc) => if acc.length < lim then lcL k ck g mt el e0 xs (s2.set k (.lst (acc ++ [y]))) else none
            | _ => none
          | none => none
        | some (false, s1) => lcL k ck g mt el e0 xs s1
        | none => none
      | none => none
    else none
noncomputable def lcFin (own : Bool) (s1 s2 : Sto) : Option (D × Sto) := match s2[s1.length]? with
  | some (.lst ds) => if own then some (.r s1.length, s2) else match data ds with
    | some xs => some (.d (.list xs), trim s1 (s2.set s1.length .gone))
    | none => none
  | _ => none
noncomputable def eLc (own : Bool) (vs : List Nat) (mi : MI) (g : MG) (mt : MT) (el : ME) : ME := fun e s => match mi e s with
  | some (items, ck, s1) => match lcL s1.length ck g mt el (wipeN e vs) items (s1 ++ [.lst []]) with
    | some s2 => lcFin own s1 s2
    | none => none
  | none => none
def tTrue : MT := fun _ s => some (true, s)
def NTs (X : Cx) (ifs : List Expr) (m : MT) : Prop := ∀ e s b s', m e s = some (b, s') → PTs X ifs (tT (ba X) e s b s')
theorem nts_nil {X : Cx} : NTs X [] tTrue := fun e s b s' h => by
  cases h
  exact ⟨fun pins sh σ H Q I ⟨w, g, l, q⟩ => pts_nil.run pins sh σ H Q I (q w H (W.le.refl w) g)⟩
theorem nts_one {X : Cx} {c : Expr} {m : MT} (h : NT X c m) : NTs X [c] m := fun e s b s' hm => pts_one (h _ _ _ _ hm)
section
variable {B : Ba} {w w' : W} {s s' : Sto} {H H' : Hp} {e : Lo} {σ : L2.St}
theorem Sl.wipe (h : Sl B w e σ) (vs : List Nat) : Sl B w (wipeN e vs) (L2.wipe σ vs) := ⟨by rw [wipeN_len, wipe_length]; exact h.le, fun i d q => by
  obtain ⟨z1, z2⟩ := wipeN_get q
  obtain ⟨v, h1, h2⟩ := h.sl i d z1
  exact ⟨v, by rw [Z.wipe_keep z2]; exact h1, h2⟩⟩
theorem mkFin_ok {own : Bool} {s1 s2 : Sto} {w1 w2 : W} {H1 H2 : Hp} {d : D} {p : Addr} (h : lcFin own s1 s2 = some (d, s')) (g1 : Ok B w1 s1 H1) (l : w1.le w2) (hp : w2.ρ[s1.length]? = some p) (g2 : Ok B w2 s2 H2) : ∃ w3, w1.le w3 ∧ Ok B w3 s' H2 ∧ VR B w3 (.ref p) d := by
  unfold lcFin at h
  split at h
  · rename_i ds e1
    split at h
    · cases h
      exact ⟨w2, l, g2, p, hp, rfl⟩
    · split at h
      · rename_i xs e2
        cases h
        rw [data_eq e2] at e1
        obtain ⟨w3, l3, g3, d3⟩ := g2.freeze e1 hp
        rcases trim_cases g1 g3 with ⟨h, _⟩ | ⟨h, h1, h2⟩
        · rw [h]
          exact ⟨w3, l.trans l3, g3, d3⟩
        · rw [h]
          refine ⟨w3.take s1.length, ⟨(l.trans l3).F, ?_⟩, h2, d3⟩
          obtain ⟨m, hm⟩ := (l.trans l3).ρ
          show w1.ρ <+: w3.ρ.take s1.length
          rw [← hm, ← g1.lr, List.take_append_of_le_length (Nat.le_refl _), List.take_length]
          exact List.prefix_rfl
      · cases h
  · cases h
end
section
variable {X : Cx} {ex a b c tg iter elt : Expr} {es ifs : List Expr} {st : Stmt} {rest body orelse : List Stmt} {m ma mb mc : ME} {ms : MA} {mt mu : MT} {pos p : Pos} {M M1 M2 : MS}
theorem lc_run {mi : MI} {g : MG} {el : ME} {own : Bool} {vs : List Nat} {e : Lo} {s s' : Sto} {d : D} (h : eLc own vs mi g mt el e s = some (d, s')) {wi : TI} (hw : ∀ items ck s1 σ H R, mi e s = some (items, ck, s1) → tI (ba X) e s items ck s1 σ H R → wi σ H R)
    {G : TG} {TT' : TT} {EE : TE} (hG : ∀ s d e e' v σ H Q, g d e = some e' → tG (ba X) vs s d e e' v σ H Q → G v σ H Q) (hT : ∀ e s b s' σ H Q, mt e s = some (b, s') → tT (ba X) e s b s' σ H Q → TT' σ H Q) (hE : ∀ e s d s' σ H Q, el e s = some (d, s') → tE (ba X) e s d s' σ H Q → EE σ H Q) :
    ∀ σ H Q, tE (ba X) e s d s' σ H Q → tLc wi G TT' EE vs σ H Q := by
  intro σ H Q ⟨w, g0, l, k⟩
  unfold eLc at h
  split at h
  · rename_i items ck s1 e1
    split at h
    · rename_i sF eF
      refine hw _ _ _ _ _ _ e1 ⟨w, g0, l, fun J w1 H1 l1 g1 ck1 wk D hD => ?_⟩
      have gD : Ok (ba X) ⟨w1.F, w1.ρ ++ [D]⟩ (s1 ++ [.lst []]) (upd H1 D (.lst [])) := g1.new hD ⟨ext_none g1.ext hD, [], upd_same, trivial⟩
      have lD : w1.le ⟨w1.F, w1.ρ ++ [D]⟩ := Ok.new_le
      have atD : (w1.ρ ++ [D])[s1.length]? = some D := by rw [← g1.lr, List.getElem?_append_right (Nat.le_refl _), Nat.sub_self]; rfl
      refine ⟨fun i m H' => m = items.length - i ∧ i ≤ items.length ∧ ∃ s2 w2, lcL s1.length ck g mt el (wipeN e vs) (items.drop i) s2 = some sF ∧ W.le ⟨w1.F, w1.ρ ++ [D]⟩ w2 ∧ Ok (ba X) w2 s2 H', ⟨_, rfl, Nat.zero_le _, _, _, eF, W.le.refl _, gD⟩, ?_⟩
      rintro i m H' ⟨rfl, hi', s2, w2, hf, l2, g2⟩
      have slw : ∀ {w' : W}, W.le ⟨w1.F, w1.ρ ++ [D]⟩ w' → Sl (ba X) w' (wipeN e vs) (wipe σ vs) := fun h => (l.up ((l1.trans lD).trans h)).wipe vs
      by_cases hlt : i < items.length
      · rw [List.drop_eq_getElem_cons hlt] at hf
        unfold lcL at hf
        split at hf
        · rename_i hck
          obtain ⟨wk1, _⟩ := wk w2 s2 H' (lD.trans l2) g2 hck
          obtain ⟨go, yl⟩ := wk1 i items[i] (List.getElem?_eq_getElem hlt)
          refine .inr ⟨go, fun H3 => ∃ s3 w3, lcL s1.length ck g mt el (wipeN e vs) (items.drop (i + 1)) s3 = some sF ∧ W.le ⟨w1.F, w1.ρ ++ [D]⟩ w3 ∧ Ok (ba X) w3 s3 H3, fun H3 h3 => ⟨items.length - (i + 1), by omega, rfl, hlt, h3⟩, fun v H4 y => ?_⟩
          obtain ⟨w4, l4, g4, v4⟩ := yl v H4 y
          cases hgx : g items[i] (wipeN e vs) with
          | none => rw [hgx] at hf; cases hf
          | some e3 =>
            rw [hgx] at hf
            refine hG _ _ _ _ _ _ _ _ hgx ⟨w4, g4, slw (l2.trans l4), v4, fun σ5 o l5 => ⟨Z.wipe_off o, ?_⟩⟩
            cases hM : mt e3 s2 with
            | none => simp only [hM] at hf; cases hf
            | some z =>
              obtain ⟨bb, s5⟩ := z
              simp only [hM] at hf
              refine hT _ _ _ _ _ _ _ hM ⟨w4, g4, l5, fun w6 H6 l6 g6 => ?_⟩
              cases bb with
              | false =>
                dsimp only
                rw [if_neg Bool.false_ne_true]
                exact ⟨s5, w6, hf, (l2.trans l4).trans l6, g6⟩
              | true =>
                dsimp only
                rw [if_pos rfl]
                cases hE2 : el e3 s5 with
                | none => simp only [hE2] at hf; cases hf
                | some z =>
                  obtain ⟨yd, s7⟩ := z
                  simp only [hE2] at hf
                  refine hE _ _ _ _ _ _ _ hE2 ⟨w6, g6, l5.up l6, fun u w8 H8 l8 g8 v8 => ?_⟩
                  have l18 := ((l2.trans l4).trans l6).trans l8
                  have at8 : w8.ρ[s1.length]? = some D := pre_get l18.ρ atD
                  split at hf
                  · rename_i acc e8
                    split at hf
                    · rename_i hl
                      obtain ⟨a9, vs9, q1, q2, q3, q4⟩ := chg_lst (v := .ref D) g8 ⟨D, at8, rfl⟩ e8
                      cases q1
                      exact ⟨vs9, q2, by rw [q3.len]; exact Nat.lt_trans hl lim_lt, _, w8, hf, l18, q4 _ _ (q3.app ⟨v8, trivial⟩)⟩
                    · cases hf
                  · cases hf
        · cases hf
      · have e' : i = items.length := by omega
        subst e'
        rw [List.drop_length] at hf
        unfold lcL at hf
        split at hf
        · rename_i hck
          cases hf
          obtain ⟨_, st⟩ := wk w2 _ H' (lD.trans l2) g2 hck
          obtain ⟨w3, a1, a2, a3⟩ := mkFin_ok h g1 (lD.trans l2) (pre_get l2.ρ atD) g2
          exact .inl ⟨st, k _ w3 H' (l1.trans a1) a2 a3⟩
        · cases hf
    · cases h
  · cases h
section
variable {scope : Scope} {own : List (Str × Nat)} {ow : Bool} {vs : List Nat} {mi : MI} {g : MG} {el : ME}
theorem n_lc (hi : NI X tg iter mi) (hg : ∀ z, NG (bl X scope z) tg vs g) (ht : ∀ z, NTs (bl X scope z) ifs mt) (he : ∀ z, NE (bl X scope z) elt el) (hN : X.N.Nodup) (ok : BlkOk X.N X.env.scope scope own) (hvs : own.map (·.2) = vs := by rfl) (hc : X.calm = true := by rfl) (hs : ∀ x, foldedSetIterable iter X.env x = pure x := by intro _; rfl) :
    NE X (.ListComp elt [⟨tg, iter, ifs, 0⟩] scope pos) (eLc ow vs mi g mt el) := fun e s d s' h => by
  subst hvs
  refine PE.imp (pe_lc hc hN hi.fam ok (fun sh H C cl fp => (show PG (X.blk sh H scope (compEnvC scope cl C X.env) fp) tg (fun v σ H Q => ∃ s d e e', g d e = some e' ∧ tG (ba X) (own.map (·.2)) s d e e' v σ H Q) from (hg (sh, H, C, cl, fp)).fam)) (fun sh H C cl fp => (⟨fun pins sh' σ H' Q I ⟨e, s, b, s', hm, q⟩ => (ht (sh, H, C, cl, fp) e s b s' hm).run pins sh' σ H' Q I q⟩ : PTs _ ifs (fun σ H Q => ∃ e s b s', mt e s = some (b, s') ∧ tT (ba X) e s b s' σ H Q))) (fun sh H C cl fp => (show PE (X.blk sh H scope (compEnvC scope cl C X.env) fp) elt (fun σ H Q => ∃ e s d s', el e s = some (d, s') ∧ tE (ba X) e s d s' σ H Q) from (he (sh, H, C, cl, fp)).fam)) hs) ?_
  exact lc_run h (fun items ck s1 σ H R h1 h2 => ⟨e, s, items, ck, s1, h1, h2⟩) (fun s d e e' v σ H Q h1 h2 => ⟨s, d, e, e', h1, h2⟩) (fun e s b s' σ H Q h1 h2 => ⟨e, s, b, s', h1, h2⟩) (fun e s d s' σ H Q h1 h2 => ⟨e, s, d, s', h1, h2⟩)
/-- name = [..] -/
theorem ns_setLc {y : Str} {py spos : Pos} (i : Nat) (hi : NI X tg iter mi) (hg : ∀ z, NG (bl X scope z) tg vs g) (ht : ∀ z, NTs (bl X scope z) ifs mt) (he : ∀ z, NE (bl X scope z) elt el) (hN : X.N.Nodup) (ok : BlkOk X.N X.env.scope scope own) (hvs : own.map (·.2) = vs := by rfl) (hc : X.calm = true := by rfl) (hs : ∀ x, foldedSetIterable iter X.env x = pure x := by intro _; rfl)
    (hy : X.N[i]? = some y := by rfl) (hyl : X.env.scope.names.lookup y = some .local := by rfl) (hsw : swapsWith (.ListComp elt [⟨tg, iter, ifs, 0⟩] scope pos) (some (.Name y py)) spos.line X.env = pure true := by rfl) :
    NS X (.Assign [.Name y py] (.ListComp elt [⟨tg, iter, ifs, 0⟩] scope pos) spos) (sSet i (eLc ow vs mi g mt el)) := fun e s fl e' s' b hm hb => by
  subst hvs
  unfold sSet at hm
  split at hm
  · rename_i d s1 h
    cases hm
    refine Z.PS.imp (ps_setLc hc hN hy hyl hsw hi.fam ok (fun sh H C cl fp => (show PG (X.blk sh H scope (compEnvC scope cl C X.env) fp) tg (fun v σ H Q => ∃ s d e e', g d e = some e' ∧ tG (ba X) (own.map (·.2)) s d e e' v σ H Q) from (hg (sh, H, C, cl, fp)).fam)) (fun sh H C cl fp => (⟨fun pins sh' σ H' Q I ⟨e, s, b, s', hm, q⟩ => (ht (sh, H, C, cl, fp) e s b s' hm).run pins sh' σ H' Q I q⟩ : PTs _ ifs (fun σ H Q => ∃ e s b s', mt e s = some (b, s') ∧ tT (ba X) e s b s' σ H Q))) (fun sh H C cl fp => (show PE (X.blk sh H scope (compEnvC scope cl C X.env) fp) elt (fun σ H Q => ∃ e s d s', el e s = some (d, s') ∧ tE (ba X) e s d s' σ H Q) from (he (sh, H, C, cl, fp)).fam)) hs) fun Dn σ H ⟨w, G, l, k⟩ => ?_
    refine lc_run h (fun items ck s1 σ H R h1 h2 => ⟨e, s, items, ck, s1, h1, h2⟩) (fun s d e e' v σ H Q h1 h2 => ⟨s, d, e, e', h1, h2⟩) (fun e s b s' σ H Q h1 h2 => ⟨e, s, b, s', h1, h2⟩) (fun e s d s' σ H Q h1 h2 => ⟨e, s, d, s', h1, h2⟩) σ H _ ⟨w, G, l, fun v w1 H1 l1 g1 v1 => ?_⟩
    exact k w1 _ H1 (l1.cut b) g1 ((l.up l1).put i v1)
  · cases hm
end

/-- what a call leaves: the store cut back; a list of one's own becomes a datum -/
noncomputable def ret (own : Bool) (s : Sto) (d : D) (s' : Sto) : Option (D × Sto) := match d with
  | .d x => some (.d x, trim s s')
  | .r j => if j < s.length then some (.r j, trim s s') else if own then some (.r j, s') else match s'[j]? with
    | some (.lst ds) => match data ds with
      | some xs => some (.d (.list xs), trim s (s'.set j .gone))
      | none => some (.r j, s')
    | _ => some (.r j, s')
noncomputable def fnR (np n : Nat) (own : Bool) (M : MS) : FA := fun s ds => if ds.length = np then match M (ds.map some ++ List.replicate (n - np) none) s with
  | some (.rt d, _, s') => ret own s d s'
  | some (.nx, _, s') => ret own s (.d .none) s'
  | _ => none
  else none
def spN (B : Ba) (F : FA) : Sp := fun vs H Q _ => ∃ w ds s d s', Ok B w s H ∧ VRs B w vs ds ∧ F s ds = some (d, s') ∧ ∀ v w' H', w.le w' → Ok B w' s' H' → VR B w' v d → Q v H'
theorem ret_ok {B : Ba} {own : Bool} {w w' : W} {s s1 s' : Sto} {H H' : Hp} {d0 d : D} {v : V} (h : ret own s d0 s1 = some (d, s')) (g : Ok B w s H) (l : w.le w') (g' : Ok B w' s1 H') (hv : VR B w' v d0) : ∃ w2, w.le w2 ∧ Ok B w2 s' H' ∧ VR B w2 v d := by
  have cutw : ∀ {w3 : W}, w.le w3 → w.le (w3.take s.length) := fun {w3} l3 => ⟨l3.F, by
    obtain ⟨m, hm⟩ := l3.ρ
    show w.ρ <+: w3.ρ.take s.length
    rw [← hm, ← g.lr, List.take_append_of_le_length (Nat.le_refl _), List.take_length]
    exact List.prefix_rfl⟩
  unfold ret at h
  split at h
  · rename_i x
    cases h
    rcases trim_cases g g' with ⟨h, _⟩ | ⟨h, h1, h2⟩
    · rw [h]; exact ⟨w', l, g', hv⟩
    · rw [h]; exact ⟨_, cutw l, h2, hv⟩
  · rename_i j
    split at h
    · rename_i hj
      cases h
      rcases trim_cases g g' with ⟨h, _⟩ | ⟨h, h1, h2⟩
      · rw [h]; exact ⟨w', l, g', hv⟩
      · rw [h]; exact ⟨_, cutw l, h2, hv.cut fun k e => by cases e; exact hj⟩
    · split at h
      · cases h
        exact ⟨w', l, g', hv⟩
      · split at h
        · rename_i ds e1
          split at h
          · rename_i xs e2
            cases h
            rw [data_eq e2] at e1
            obtain ⟨a, h1, rfl⟩ := hv
            obtain ⟨w3, l3, g3, d3⟩ := g'.freeze e1 h1
            rcases trim_cases g g3 with ⟨h, _⟩ | ⟨h, h1, h2⟩
            · rw [h]; exact ⟨w3, l.trans l3, g3, d3⟩
            · rw [h]; exact ⟨_, cutw (l.trans l3), h2, d3⟩
          · cases h
            exact ⟨w', l, g', hv⟩
        · cases h
          exact ⟨w', l, g', hv⟩
/-- a def that may be called by its name -/
structure Fn (P : Program) (w : World) (K : PySem.W.Frag) (mg : Str → Option Value) (base : Heap) (k : Nat) (x : Str) (F : FA) : Prop where
  ex : ∃ (f : Addr) (fd : FuncData) (ps : List Str), FnOk P w K mg base CX0 k f fd ps (spN ⟨P, w, K⟩ F) ∧ mg x = some (.ref f) ∧ PySem.W.keepIn K (.ref f) = true ∧ Binds K fd ps []
theorem VRs.start {B : Ba} {w : W} : ∀ {vs : List V} {ds : List D} (n : Nat), VRs B w vs ds → Sl B w (ds.map some ++ List.replicate n none) (vs.map some ++ List.replicate n none) := fun {vs ds} n h => ⟨by simp [h.len], fun i d q => by
  by_cases hi : i < (ds.map some).length
  · rw [List.getElem?_append_left hi, List.getElem?_map] at q
    obtain ⟨d', h1, h2⟩ := Option.map_eq_some_iff.mp q
    cases h2
    obtain ⟨v, h3, h4⟩ := h.get h1
    exact ⟨v, by rw [List.getElem?_append_left (by rw [List.length_map, h.len]; simpa using hi), List.getElem?_map, h3]; rfl, h4⟩
  · rw [List.getElem?_append_right (by omega), List.getElem?_replicate] at q
    split at q <;> cases q⟩
theorem nfun {P : Program} {w : World} {K : PySem.W.Frag} {mg : Str → Option Value} {base : Heap} {x : Str} {st : Stmt} {ps N : List Str} {k : Nat} {own : Bool} {M : MS} (DD : Dfn K mg x st ps) (S : FnScope N ps (defScope st))
    (body : ∀ (f : Addr) (cdv : Value) (A : Around) (outer : List Env) (s : Shared) (H : Hp) (E : XK), Room k (A.deeper (envOfC x (defScope st) s.heap.objs.size f cdv)) →
      NSs (cxOf CX0 P w K mg base N x (defScope st) f cdv A outer s H E).nox (defBody st) M) : Fn P w K mg base (k + 1) x (fnR ps.length N.length own M) := by
  obtain ⟨f, fd, F, hm, hb⟩ := DD.ex
  have len : ∀ {s : Sto} {ds : List D} {d : D} {s' : Sto}, fnR ps.length N.length own M s ds = some (d, s') → ds.length = ps.length := fun {s ds d s'} h => by
    unfold fnR at h
    split at h
    · assumption
    · cases h
  refine ⟨f, fd, ps, F.ok S (fun vs H Q E ⟨w, ds, s, d, s', g, hv, h, _⟩ => by rw [hv.len]; exact len h) (fun cdv A outer sh H vs Q E hr ⟨w, ds, s, d, s', g, hv, h, k⟩ => ?_), hm, F.kp, hb⟩
  have hl := len h
  have go : ∀ fl e1 s1 d0, M (ds.map some ++ List.replicate (N.length - ps.length) none) s = some (fl, e1, s1) → ret own s d0 s1 = some (d, s') → (fl = .rt d0 ∨ (fl = .nx ∧ d0 = .d .none)) → ∃ t, PSs (cxOf CX0 P _ K mg base N x (defScope st) f cdv A outer sh H E).nox (defBody st) t ∧ t { nx := fun _ H' => Q .non H', rt := Q } (start N vs) H := fun fl e1 s1 d0 h1 h2 h3 => by
    refine ⟨_, body f cdv A outer sh H E hr _ _ _ _ _ s.length h1 (Nat.le_refl _), w, g, ?_, ?_⟩
    · show Sl _ w _ (vs.map some ++ List.replicate (N.length - vs.length) none)
      rw [hv.len, hl]
      exact VRs.start _ hv
    · rcases h3 with rfl | ⟨rfl, rfl⟩
      · exact fun w' v H' l g' v' => by
          obtain ⟨w2, l2, g2, v2⟩ := ret_ok h2 g (W.le.of_take l g.lr) g' v'
          exact k v w2 H' l2 g2 v2
      · exact fun w' σ' H' l g' sl => by
          obtain ⟨w2, l2, g2, v2⟩ := ret_ok h2 g (W.le.of_take l g.lr) g' vn
          exact k .non w2 H' l2 g2 v2
  unfold fnR at h
  rw [if_pos hl] at h
  split at h
  · rename_i d0 e1 s1 e0
    exact go _ _ _ _ e0 h (.inl rfl)
  · rename_i e1 s1 e0
    exact go _ _ _ _ e0 h (.inr ⟨rfl, rfl⟩)
  · cases h
/-- nothing is promised -/
theorem nfun_none {P : Program} {w : World} {K : PySem.W.Frag} {mg : Str → Option Value} {base : Heap} {x : Str} {st : Stmt} {ps N : List Str} {k : Nat} (DD : Dfn K mg x st ps) (S : FnScope N ps (defScope st)) : Fn P w K mg base (k + 1) x (fun _ _ => none) := by
  obtain ⟨f, fd, F, hm, hb⟩ := DD.ex
  exact ⟨f, fd, ps, F.ok S (fun vs H Q E ⟨w, ds, s, d, s', g, hv, h, _⟩ => by cases h) (fun cdv A outer sh H vs Q E hr ⟨w, ds, s, d, s', g, hv, h, k⟩ => by cases h), hm, F.kp, hb⟩
theorem Fn.mono {P : Program} {w : World} {K : PySem.W.Frag} {mg : Str → Option Value} {base : Heap} {x : Str} {F : FA} {k j : Nat} (c : Fn P w K mg base k x F) (h : k ≤ j) : Fn P w K mg base j x F := let ⟨f, fd, ps, F, r⟩ := c.ex; ⟨f, fd, ps, F.mono h, r⟩
theorem n_call {F : FA} {x : Str} {k j : Nat} (c : Fn X.prog X.w X.K X.mg X.base k x F) (ha : NA X (ex :: es) ms) (hr : Room j X.A) (hk : k ≤ j := by omega) (cl : Cl X x ex es pos := by exact ⟨rfl, rfl, rfl⟩) (hdb : (x == ("__debug__" : Str)) = false := by decide) : NE X (.Call (.Name x p) (ex :: es) [] pos) (eCall F ms) := fun e s z s' h => by
  obtain ⟨ds, s1, e1, e2⟩ := call_cases h
  obtain ⟨f, fd, ps, FF, hm, kp, b⟩ := c.ex
  refine PE.imp (pe_call FF (hr.mono hk) cl.1 hm kp b .nil pass0 (ha _ _ _ _ e1) hdb cl.2.1 cl.2.2) fun σ H Q ⟨w, g, l, q⟩ => ⟨w, g, l, fun vs w1 H1 l1 g1 v1 => ?_⟩
  show spN _ F (vs ++ []) H1 Q E0
  rw [List.append_nil]
  exact ⟨w1, ds, s1, z, s', g1, v1, e2, fun v w2 H2 l2 g2 v2 => q v w2 H2 (l1.trans l2) g2 v2⟩
end
end N

namespace N
open PySem L2 PyProof.Rows
open Z (Ext dpUp dpsUp dpsLen dpsGet DxO KyD DEn Cl cut offv bl Dfn)
section
variable {X : Cx} {ex a b c tg iter elt : Expr} {es ifs : List Expr} {st : Stmt} {rest body orelse : List Stmt} {m ma mb mc : ME} {ms : MA} {mt mu : MT} {pos p : Pos} {M M1 M2 : MS}

/-- a method of a list of the store: what it does to the list, what it answers -/
abbrev FM := Sto → List D → List D → Option (List D × D)
def eMeth (f : FM) (ma : ME) (ms : MA) : ME := fun e s => match ma e s with
  | some (.r j, s1) => match s1[j]? with
    | some (.lst _) => match ms e s1 with
      | some (ds, s2) => match s2[j]? with
        | some (.lst xs) => match f s2 xs ds with
          | some (ys, z) => some (z, s2.set j (.lst ys))
          | none => none
        | _ => none
      | none => none
    | _ => none
  | _ => none
def MetS (X : Cx) (id : String) (f : FM) : Prop := ∀ s xs ds ys z, f s xs ds = some (ys, z) → ∃ q, MtR X id q ∧ ∀ p vs us w H (Q : VK), Ok (ba X) w s H → H p = some (.lst vs) → VRs (ba X) w vs xs → VRs (ba X) w us ds → (∀ vs' v, VRs (ba X) w vs' ys → VR (ba X) w v z → Q v (upd H p (.lst vs'))) → q (.ref p) us H Q
theorem meth_cases {f : FM} {e : Lo} {s s' : Sto} {z : D} (h : eMeth f ma ms e s = some (z, s')) : ∃ j s1 x1 ds s2 xs ys, ma e s = some (.r j, s1) ∧ s1[j]? = some (.lst x1) ∧ ms e s1 = some (ds, s2) ∧ s2[j]? = some (.lst xs) ∧ f s2 xs ds = some (ys, z) ∧ s' = s2.set j (.lst ys) := by
  unfold eMeth at h
  split at h
  · rename_i j s1 e1
    split at h
    · rename_i x1 e2
      split at h
      · rename_i ds s2 e3
        split at h
        · rename_i xs e4
          split at h
          · rename_i ys zz e5
            cases h
            exact ⟨j, s1, x1, ds, s2, xs, ys, e1, e2, e3, e4, e5, rfl⟩
          · cases h
        · cases h
      · cases h
    · cases h
  · cases h
theorem n_meth {f : FM} {id : String} {name : Str} {apos : Pos} (hf : MetS X id f) (ha : NE X a ma) (hs : NA X (ex :: es) ms) (slot : Slot "list" name id) (hty : typeOf (.builtin id) = pure (.type "method_descriptor"))
    (hbase : attributeBase a name X.env (eval a X.env) = eval a X.env := by rfl)
    (hfew : ((backTo pos (starEach (ex :: es) X.env)).all (fun x => !x.1) && (backToKw pos (keywordEach [] X.env)).all (fun x => x.1.isSome)
      && decide ((ex :: es).length + ([] : List Keyword).length + (if ([] : List Keyword).isEmpty then 0 else 1) < 30)) = true := by rfl)
    (hline : (apos.endLine == pos.line) = true := by rfl) (hst : starEach (ex :: es) X.env = (false, eval ex X.env) :: starEach es X.env := by rfl) (hplain : (backTo pos (starEach es X.env)).any (·.1) = false := by rfl) :
    NE X (.Call (.Attribute a name apos) (ex :: es) [] pos) (eMeth f ma ms) := fun e s z s' h => by
  obtain ⟨j, s1, x1, ds, s2, xs, ys, e1, e2, e3, e4, e5, rfl⟩ := meth_cases h
  obtain ⟨q, hq, run⟩ := hf _ _ _ _ _ e5
  refine PE.imp (pe_bm PySem.F.plainAttrs_list slot hty hq (ha _ _ _ _ e1) (hs _ _ _ _ e3) hbase hfew hline hst hplain) fun σ H Q ⟨w, g, l, k⟩ => ⟨w, g, l, fun v w1 H1 l1 g1 v1 => ?_⟩
  obtain ⟨p1, vs1, rfl, h1, _, _⟩ := chg_lst g1 v1 e2
  refine ⟨.inl ⟨rfl, vs1, .of h1⟩, w1, g1, l.up l1, fun us w2 H2 l2 g2 v2 => ?_⟩
  obtain ⟨p2, vs2, ep, h2, h3, h4⟩ := chg_lst g2 (v1.up l2) e4
  cases ep
  exact run _ vs2 us w2 H2 Q g2 h2 h3 v2 fun vs' v hv' hv => k v w2 _ (l1.trans l2) (h4 _ _ hv') hv
def fApp : FM := fun _ xs ds => match ds with
  | [d] => if xs.length < lim then some (xs ++ [d], .d .none) else none
  | _ => none
theorem f_app : MetS X "list.append" fApp := fun s xs ds ys z h => by
  unfold fApp at h
  split at h
  · rename_i d
    split at h
    · rename_i hl
      cases h
      refine ⟨_, mt_append, fun p vs us w H Q g hp hv hu k => ?_⟩
      obtain ⟨u, rfl, hu1⟩ := vrs1 hu
      exact ⟨p, vs, u, rfl, rfl, hp, by rw [hv.len]; exact Nat.lt_trans hl lim_lt, k _ _ (hv.app ⟨hu1, trivial⟩) vn⟩
    · cases h
  · cases h
def fExt : FM := fun s xs ds => match ds with
  | [d] => match asL s d with
    | some es => if xs.length + es.length ≤ lim then some (xs ++ es, .d .none) else none
    | none => none
  | _ => none
theorem f_ext : MetS X "list.extend" fExt := fun s xs ds ys z h => by
  unfold fExt at h
  split at h
  · rename_i d
    split at h
    · rename_i es e1
      split at h
      · rename_i hl
        cases h
        refine ⟨_, Z.mt_extQ, fun p vs us w H Q g hp hv hu k => ?_⟩
        obtain ⟨u, rfl, hu1⟩ := vrs1 hu
        obtain ⟨p2, zs, rfl, q2, r2⟩ := asL_ok e1 g hu1
        exact ⟨p, p2, vs, zs, rfl, rfl, hp, q2, by rw [hv.len, r2.len]; exact Nat.le_trans hl (Nat.le_of_lt lim_lt), k _ _ (hv.app r2) vn⟩
      · cases h
    · cases h
  · cases h
def fPopAt : FM := fun _ xs ds => match ds with
  | [.d (.int i)] => if -(2 ^ 63) ≤ i ∧ i < 2 ^ 63 then match seqIndex? i xs.length with
    | some k => match xs[k]? with
      | some y => some (xs.eraseIdx k, y)
      | none => none
    | none => none
    else none
  | _ => none
theorem f_popAt : MetS X "list.pop" fPopAt := fun s xs ds ys z h => by
  unfold fPopAt at h
  split at h
  · rename_i i
    split at h
    · rename_i hi
      split at h
      · rename_i kk e0
        split at h
        · rename_i y e1
          cases h
          refine ⟨_, mt_popAt, fun p vs us w H Q g hp hv hu k => ?_⟩
          obtain ⟨u, rfl, hu1⟩ := vrs1 hu
          cases vr_int hu1
          obtain ⟨v, h1, h2⟩ := hv.get e1
          exact ⟨p, vs, i, kk, v, rfl, rfl, hp, hi.1, hi.2, by rw [hv.len]; exact e0, h1, k _ _ (hv.eraseIdx kk) h2⟩
        · cases h
      · cases h
    · cases h
  · cases h

def eDic : ME := fun _ s => some (.r s.length, s ++ [.dic []])
theorem n_dic : NE X (.Dict [] [] pos) eDic := fun e s d s' h => by
  cases h
  refine PE.imp Z.pe_newX fun σ H Q ⟨w, g, l, k⟩ => fun p hp => ?_
  exact k _ _ _ Ok.new_le (g.new hp ⟨ext_none g.ext hp, [], upd_same, trivial⟩) g.new_at
theorem inq_cases {neg : Bool} {x : PyData} {ds : List PyData} {k : Bool} (h : cInQ neg x ds = some k) : PyData.plainAll ds = true ∧ x.plain = true ∧ min (PyData.depthAll ds) x.depth ≤ 60 ∧ k = (if neg then !(ds.any fun z => PyData.eqv z x) else ds.any fun z => PyData.eqv z x) := by
  unfold cInQ at h
  split at h
  · rename_i hc
    cases h
    exact ⟨hc.1, hc.2.1, hc.2.2, rfl⟩
  · cases h
theorem cIn_ok {op : CmpOp} {neg : Bool} (h1 : OpR X (compareOp op) (Z.rInZ X.K X.A.units neg)) (h2 : OpR X (compareOp op) (Z.rInX X neg)) (hu : X.A.units + 64 < cLine) {s : Sto} {a b : D} {k : Bool} (e : cIn neg s a b = some k) (ndk : ∀ j kvs, b = .r j → s[j]? ≠ some (.dk kvs)) :
    ∃ q, OpR X (compareOp op) q ∧ BiN (ba X) q s a b (.d (.bool k)) s := by
  have seq : ∀ {c : PyData} {ds : List PyData} {x : PyData}, pd s b = some c → (c = .list ds ∨ c = .tuple ds) → pd s a = some x → cInQ neg x ds = some k → ∃ q, OpR X (compareOp op) q ∧ BiN (ba X) q s a b (.d (.bool k)) s := fun {c ds x} hb hc ha hq => by
    obtain ⟨p1, p2, p3, rfl⟩ := inq_cases hq
    refine ⟨_, h1, fun u v w H Q g v1 v2 q => ⟨x, c, ds, pd_ok ha g v1, pd_ok hb g v2, hc, p1, p2, by show X.A.units + 1 + _ < _; omega, q _ w H (W.le.refl w) g vb⟩⟩
  unfold cIn at e
  split at e
  · split at e
    · rename_i x e1
      exact seq rfl (.inr rfl) e1 e
    · cases e
  · split at e
    · rename_i x e1
      exact seq rfl (.inl rfl) e1 e
    · cases e
  · rename_i j
    split at e
    · rename_i ds e1
      split at e
      · rename_i xs e2
        split at e
        · rename_i x e3
          refine seq (c := .list xs) ?_ (.inl rfl) e3 e
          show (match s[j]? with
            | some (.lst ds) => match data ds with
              | some xs => some (PyData.list xs)
              | none => none
            | _ => none) = _
          rw [e1]
          simp only [e2]
        · cases e
      · cases e
    · rename_i kvs e1
      split at e
      · rename_i x
        split at e
        · rename_i hk
          cases e
          refine ⟨_, h2, fun u v w H Q g v1 v2 q => ?_⟩
          obtain ⟨b1, rfl, kb⟩ := key_ok hk v1
          obtain ⟨p1, hp1, rfl⟩ := v2
          obtain ⟨_, xs, q1, q2⟩ := g.ce _ _ p1 e1 hp1
          refine ⟨p1, b1, xs, x, rfl, rfl, q1, q2.ky g.ext, ⟨dpUp g.ext _ _ kb.1, kb.2⟩, ?_⟩
          rw [q2.has]
          exact q _ w H (W.le.refl w) g vb
        · cases e
      · cases e
    · rename_i kvs e1
      exact absurd e1 (ndk j kvs rfl)
    · cases e
  · cases e
noncomputable def dGet (kvs : List (PyData × D)) (x : PyData) : Option D := (kvs.find? fun kv => decide (kv.1 = x)).map (·.2)
theorem DR.get {B : Ba} {w : W} {x : PyData} {d : D} : ∀ {xs : List DEn} {kvs : List (PyData × D)}, DR B w xs kvs → dGet kvs x = some d → ∃ c u v, atKey xs x = some (c, u) ∧ RelV v u ∧ VR B w v d
  | [], [], _, h => by cases h
  | e :: xs, kv :: kvs, ⟨⟨h1, h2, vv, h4, h5⟩, h6⟩, h => by
    unfold dGet at h
    unfold atKey
    rw [List.find?_cons] at h ⊢
    by_cases hk : kv.1 = x
    · rw [h1]
      simp only [hk, decide_true] at h ⊢
      cases h
      exact ⟨_, _, vv, rfl, h4, h5⟩
    · rw [h1]
      simp only [hk, decide_false] at h ⊢
      exact DR.get h6 h
  | [], _ :: _, h, _ => h.elim
  | _ :: _, [], h, _ => h.elim
/-- d[k] for dicts with tuples as keys; else an item -/
noncomputable def eIxD (ma mb : ME) : ME := eBin (fun s a b => match a, b with
  | .r j, .d x => match s[j]? with
    | some (.dic kvs) => if isKey x then match dGet kvs x with
        | some d => some (d, s)
        | none => none
      else none
    | _ => none
  | _, _ => none) ma mb
theorem n_ixD (hu : X.A.units + 64 < cLine) (ha : NE X a ma) (hb : NE X b mb) (hs : PlainIx b := by intro _ _; rfl) : NE X (.Subscript a b pos) (eIxD ma mb) := fun e s z s' h => by
  obtain ⟨x, s1, y, s2, e1, e2, e3⟩ := bin_cases h
  split at e3
  · rename_i j x
    split at e3
    · rename_i kvs e4
      split at e3
      · rename_i hk
        split at e3
        · rename_i d e5
          cases e3
          refine PE.imp (pe_ix (Z.ix_X (by omega)) (ha _ _ _ _ e1) (hb _ _ _ _ e2) hs) (bi_run fun u v w H Q g v1 v2 q => ?_)
          obtain ⟨b1, rfl, kb⟩ := key_ok hk v2
          obtain ⟨p1, hp1, rfl⟩ := v1
          obtain ⟨_, xs, q1, q2⟩ := g.ce _ _ p1 e4 hp1
          obtain ⟨c, uu, vv, h5, h6, h7⟩ := q2.get e5
          exact ⟨p1, b1, xs, x, c, uu, vv, rfl, rfl, q1, q2.ky g.ext, ⟨dpUp g.ext _ _ kb.1, kb.2⟩, h5, h6, q vv w H (W.le.refl w) g h7⟩
        · cases e3
      · cases e3
    · cases e3
  · cases e3
/-- d[k] = v -/
noncomputable def dPut (kvs : List (PyData × D)) (x : PyData) (d : D) : List (PyData × D) := if dHas kvs x then kvs.map fun kv => if kv.1 = x then (kv.1, d) else kv else kvs ++ [(x, d)]
theorem DR.len {B : Ba} {w : W} : ∀ {xs : List DEn} {kvs : List (PyData × D)}, DR B w xs kvs → xs.length = kvs.length
  | [], [], _ => rfl
  | v :: vs, d :: ds, ⟨h1, h2⟩ => by simp [DR.len h2]
  | [], _ :: _, h => h.elim
  | _ :: _, [], h => h.elim
theorem DR.map {B : Ba} {w : W} {x : PyData} {d : D} {u : Value} {v : V} (hu : RelV v u) (hv : VR B w v d) : ∀ {xs : List DEn} {kvs : List (PyData × D)}, DR B w xs kvs → DR B w (xs.map (putAt x u)) (kvs.map fun kv => if kv.1 = x then (kv.1, d) else kv)
  | [], [], _ => trivial
  | e :: xs, kv :: kvs, ⟨⟨h1, h2, h3⟩, h⟩ => by
    refine ⟨?_, DR.map hu hv h⟩
    unfold putAt
    by_cases hk : kv.1 = x
    · rw [if_pos (by rw [h1]; simpa using hk)]
      dsimp only
      rw [if_pos hk]
      exact ⟨h1, h2, v, hu, hv⟩
    · rw [if_neg (by rw [h1]; simpa using hk)]
      dsimp only
      rw [if_neg hk]
      exact ⟨h1, h2, h3⟩
  | [], _ :: _, h => h.elim
  | _ :: _, [], h => h.elim
theorem DR.app {B : Ba} {w : W} {e : DEn} {kv : PyData × D} (he : e.1 = kv.1 ∧ KyD B.K w.F e.2.1 e.1 ∧ ∃ vv, RelV vv e.2.2 ∧ VR B w vv kv.2) : ∀ {xs : List DEn} {kvs : List (PyData × D)}, DR B w xs kvs → DR B w (xs ++ [e]) (kvs ++ [kv])
  | [], [], _ => ⟨he, trivial⟩
  | _ :: _, _ :: _, ⟨h1, h⟩ => ⟨h1, DR.app he h⟩
  | [], _ :: _, h => h.elim
  | _ :: _, [], h => h.elim
theorem DR.put {B : Ba} {w : W} {x : PyData} {d : D} {b : Addr} {u : Value} {v : V} {xs : List DEn} {kvs : List (PyData × D)} (h : DR B w xs kvs) (kb : KyD B.K w.F b x) (hu : RelV v u) (hv : VR B w v d) : DR B w (storedH xs x b u) (dPut kvs x d) := by
  unfold storedH dPut
  rw [h.has]
  split
  · exact h.map hu hv
  · exact h.app ⟨rfl, kb, v, hu, hv⟩
noncomputable def sPutD (ma mi mv : ME) : MS := fun e s => match mv e s with
  | some (d, s1) => match ma e s1 with
    | some (.r j, s2) => match mi e s2 with
      | some (.d x, s3) => match s3[j]? with
        | some (.dic kvs) => if isKey x ∧ kvs.length < lim then some (.nx, e, s3.set j (.dic (dPut kvs x d))) else none
        | _ => none
      | _ => none
    | _ => none
  | none => none
theorem ns_putD {tpos : Pos} {mi mv : ME} (hu : X.A.units + 64 < cLine) (hv : NE X ex mv) (ha : NE X a ma) (hi : NE X b mi)
    (hsub : ∀ v, assign (.Subscript a b tpos) X.env v = (do
      let ov ← holding [v] (eval a X.env)
      let iv ← holding [v, ov] (eval b X.env)
      standAt tpos
      holding [v, ov, iv] (setItem ov iv v)
      release [v, ov, iv] []) := by intro _; rfl)
    (hs : swapsWithSole [.Subscript a b tpos] ex pos.line X.env = pure false := by rfl) (hw : swappedStores [.Subscript a b tpos] ex X.env = pure none := by rfl) (h1 : (assignEach [.Subscript a b tpos] X.env).map (·.2) = [assign (.Subscript a b tpos) X.env] := by rfl) :
    NS X (.Assign [.Subscript a b tpos] ex pos) (sPutD ma mi mv) := fun e s fl e' s' bb hm hb => by
  unfold sPutD at hm
  split at hm
  · rename_i d s1 e1
    split at hm
    · rename_i j s2 e2
      split at hm
      · rename_i x s3 e3
        split at hm
        · rename_i kvs e4
          split at hm
          · rename_i hk
            cases hm
            refine Z.PS.imp (ps_asg (hv _ _ _ _ e1) (pg_sub (ha _ _ _ _ e2) (hi _ _ _ _ e3) (Z.put_X (by omega)) hsub) hs hw h1) fun Dn σ H ⟨w, g, l, k⟩ => ⟨w, g, l, fun v w1 H1 l1 g1 v1 => ⟨w1, g1, l.up l1, fun u w2 H2 l2 g2 v2 => ⟨w2, g2, (l.up l1).up l2, fun z w3 H3 l3 g3 v3 => ?_⟩⟩⟩
            obtain ⟨b1, rfl, kb⟩ := key_ok hk.1 v3
            obtain ⟨p1, hp1, rfl⟩ := v2.up l3
            obtain ⟨hF, xs, q1, q2⟩ := g3.ce _ _ p1 e4 hp1
            refine ⟨p1, b1, xs, x, rfl, rfl, q1, q2.ky g3.ext, ⟨dpUp g3.ext _ _ kb.1, kb.2⟩, ⟨xs.map (·.1), by rw [List.length_map, q2.len]; exact Nat.lt_trans hk.2 lim_lt, fun e he => List.mem_map.mpr ⟨e, he, rfl⟩⟩, fun uu hu => ?_⟩
            exact k w3 σ _ (((l1.trans l2).trans l3).cut bb) (g3.chg hp1 hF ⟨hF, _, upd_same, q2.put kb hu ((v1.up l2).up l3)⟩) (((l.up l1).up l2).up l3)
          · cases hm
        · cases hm
      · cases hm
    · cases hm
  · cases hm
end
end N

namespace N
open PySem L2 PyProof.Rows
open Z (Ext dpUp dpsUp dpsLen dpsGet DxO KyD DEn Cl cut offv bl Dfn)
section
variable {X : Cx} {ex a b c tg iter elt : Expr} {es ifs : List Expr} {st : Stmt} {rest body orelse : List Stmt} {m ma mb mc : ME} {ms : MA} {mt mu : MT} {pos p : Pos} {M M1 M2 : MS}
/-- an item of whatever it is -/
noncomputable def gIxU (s : Sto) (a b : D) : Option D := match b with
  | .d (.int i) => gIx s a i
  | .d x => match a with
    | .r j => match s[j]? with
      | some (.dic kvs) => if isKey x then dGet kvs x else none
      | _ => none
    | _ => none
  | _ => none
noncomputable def eItem (ma mb : ME) : ME := eBin (fun s a b => match gIxU s a b with
  | some d => some (d, s)
  | none => none) ma mb
theorem n_item (hu : X.A.units + 64 < cLine) (ha : NE X a ma) (hb : NE X b mb) (hs : PlainIx b := by intro _ _; rfl) : NE X (.Subscript a b pos) (eItem ma mb) := fun e s z s' h => by
  obtain ⟨x, s1, y, s2, e1, e2, e3⟩ := bin_cases h
  split at e3
  · rename_i d e4
    cases e3
    unfold gIxU at e4
    split at e4
    · rename_i i
      refine n_ix ha hb hs e s z s' ?_
      unfold eIx eBin
      simp only [e1, e2, e4]
    · rename_i y' _
      split at e4
      · rename_i j
        split at e4
        · rename_i kvs e5
          split at e4
          · rename_i hk
            refine n_ixD hu ha hb hs e s z s' ?_
            unfold eIxD eBin
            simp only [e1, e2, e5, hk, e4, if_true]
          · cases e4
        · cases e4
      · cases e4
    · cases e4
  · cases e3
/-- a store to an item of whatever it is -/
noncomputable def sPutU (ma mi mv : ME) : MS := fun e s => match sPut ma mi mv e s with
  | some r => some r
  | none => sPutD ma mi mv e s
theorem ns_putU {tpos : Pos} {mi mv : ME} (hu : X.A.units + 64 < cLine) (hv : NE X ex mv) (ha : NE X a ma) (hi : NE X b mi)
    (hsub : ∀ v, assign (.Subscript a b tpos) X.env v = (do
      let ov ← holding [v] (eval a X.env)
      let iv ← holding [v, ov] (eval b X.env)
      standAt tpos
      holding [v, ov, iv] (setItem ov iv v)
      release [v, ov, iv] []) := by intro _; rfl)
    (hs : swapsWithSole [.Subscript a b tpos] ex pos.line X.env = pure false := by rfl) (hw : swappedStores [.Subscript a b tpos] ex X.env = pure none := by rfl) (h1 : (assignEach [.Subscript a b tpos] X.env).map (·.2) = [assign (.Subscript a b tpos) X.env] := by rfl) :
    NS X (.Assign [.Subscript a b tpos] ex pos) (sPutU ma mi mv) := fun e s fl e' s' bb hm hb => by
  unfold sPutU at hm
  split at hm
  · rename_i r e1
    cases hm
    exact ns_put hv ha hi hsub hs hw h1 _ _ _ _ _ _ e1 hb
  · exact ns_putD hu hv ha hi hsub hs hw h1 _ _ _ _ _ _ hm hb

def spE (K : PySem.W.Frag) : Sp := fun vs H Q _ => ∃ a ns, List.length ns ≤ 63 ∧ vs = [.ref a] ∧ SqL K H a (ns.map V.int) ∧ ∀ H', Q (.bl true) H'
theorem head_ok {K : PySem.W.Frag} {H : Hp} {a : Addr} {ns : List Int} (hl : ns.length ≤ 63) (hS : SqL K H a (ns.map V.int)) : spE K [.ref a] H (fun v _ => v = .bl true) fun _ _ _ => False := ⟨a, ns, hl, rfl, hS, fun _ => rfl⟩
theorem law_fn {P : Program} {w : World} {K : PySem.W.Frag} {mg : Str → Option Value} {base : Heap} {x : Str} {st : Stmt} {N : List Str} {k : Nat} {M : MS} {f : Addr} {fd : FuncData} (F : Fun K x x st f fd) (S : FnScope N ["script"] (defScope st))
    (body : ∀ (f : Addr) (cdv : Value) (A : Around) (outer : List Env) (s : Shared) (H : Hp) (E : XK), Room k (A.deeper (envOfC x (defScope st) s.heap.objs.size f cdv)) →
      NSs (cxOf CX0 P w K mg base N x (defScope st) f cdv A outer s H E).nox (defBody st) M)
    (run : ∀ ns : List Int, ns.length ≤ 63 → ∃ s', fnR 1 N.length false M [] [.d (.list (ns.map .int))] = some (.d (.bool true), s')) : FnOk P w K mg base CX0 (k + 1) f fd ["script"] (spE K) := by
  refine F.ok S (fun vs H Q E ⟨a, ns, hl, e, _⟩ => by rw [e]; rfl) (fun cdv A outer sh H vs Q E hr ⟨a, ns, hl, e, hS, q⟩ => ?_)
  subst e
  obtain ⟨s', h⟩ := run ns hl
  have g : Ok ⟨P, w, K⟩ ⟨H, []⟩ [] H := ⟨Ext.refl _, rfl, List.nodup_nil, fun a h => by simp at h, fun j c a h => by simp at h⟩
  have hv : VRs ⟨P, w, K⟩ ⟨H, []⟩ [.ref a] [.d (.list (ns.map .int))] := ⟨.lst hS (Z.dps_of_ints K H ns), trivial⟩
  have go : ∀ fl e1 s1 d0, M ([D.d (.list (ns.map .int))].map some ++ List.replicate (N.length - 1) none) [] = some (fl, e1, s1) → ret false [] d0 s1 = some (.d (.bool true), s') → (fl = .rt d0 ∨ (fl = .nx ∧ d0 = .d .none)) → ∃ t, PSs (cxOf CX0 P _ K mg base N x (defScope st) f cdv A outer sh H E).nox (defBody st) t ∧ t { nx := fun _ H' => Q .non H', rt := Q } (start N [.ref a]) H := fun fl e1 s1 d0 h1 h2 h3 => by
    refine ⟨_, body f cdv A outer sh H E hr _ _ _ _ _ 0 h1 (Nat.zero_le _), ⟨H, []⟩, g, VRs.start _ hv, ?_⟩
    rcases h3 with rfl | ⟨rfl, rfl⟩
    · exact fun w' v H' l g' v' => by
        obtain ⟨w2, l2, g2, v2⟩ := ret_ok h2 g (W.le.of_take l g.lr) g' v'
        cases vr_bl v2
        exact q H'
    · exact fun w' σ' H' l g' sl => by
        obtain ⟨w2, l2, g2, v2⟩ := ret_ok h2 g (W.le.of_take l g.lr) g' vn
        cases v2
  unfold fnR at h
  rw [if_pos (show List.length [D.d (PyData.list (List.map PyData.int ns))] = 1 from rfl)] at h
  split at h
  · rename_i d0 e1 s1 e0
    exact go _ _ _ _ e0 h (.inl rfl)
  · rename_i e1 s1 e0
    exact go _ _ _ _ e0 h (.inr ⟨rfl, rfl⟩)
  · cases h
end
end N

namespace N
open PySem L2 PyProof.Rows
open Sem (wp)
open AutoSeq1 (wpAny_loadPart')
theorem meets_enumerate_newT (l : Addr) (items : Array Value) (n : Nat) (dct : Option Addr) (sl : Array (Option Value)) :
    Meets (Builtin.«enumerate.__new__» ⟨[.type "enumerate", .ref l], []⟩) (fun _ R s => s.heap.get? l = some { cls := .type "tuple", dict := dct, data := .seq items n, slots := sl } ∧
      R (.ok (.ret (.ref (s.heap.push { cls := .type "tuple_iterator", data := .fields #[.ref l, .int 0 0] }).objs.size)))
        { s with heap := (s.heap.push { cls := .type "tuple_iterator", data := .fields #[.ref l, .int 0 0] }).push { cls := .type "enumerate", data := .fields #[.none, .bool false, .ref s.heap.objs.size, rawInt 0, .none, .none] } }) :=
  .of_wp fun prog w A R s h => by
    obtain ⟨hp, g, d, tk, os⟩ := s; obtain ⟨hl, h⟩ := h
    have hsub := sub_enumerate
    have hL : Heap.IsTuple (Shared.heap ⟨hp, g, d, tk, os⟩) l items := ⟨_, hl, rfl, n, rfl⟩
    wp_walk using wpAny_loadPart' hl
    refine wpAny_stack_any fun st => wpAny_pure ?_
    split
    · rename_i c _ _ _ _ _
      cases (c == Value.type "enumerate")
      · wp_walk using wpAny_loadPart' hl, wpAny_pyIter_tuple hL
        exact ⟨_, rfl, h⟩
      · wp_walk using wpAny_loadPart' hl, wpAny_pyIter_tuple hL
        exact ⟨_, rfl, h⟩
    · wp_walk using wpAny_loadPart' hl, wpAny_pyIter_tuple hL
      exact ⟨_, rfl, h⟩
section
variable {prog : Program} {w : World} {A : Around} {E : Value → Shared → Prop} {s : Shared}
theorem call_enumerate_tuple {l : Addr} {items : Array Value} {Q : Value → Shared → Prop} (hL : s.heap.IsTuple l items)
    (h : ∀ h', IsEnum h' (s.heap.objs.size + 1) s.heap.objs.size 0 .none → h'.IsTupleIter s.heap.objs.size l 0 → h'.objs.size = s.heap.objs.size + 2 →
      (∀ b o, s.heap.get? b = some o → h'.get? b = some o) → Q (.ref (s.heap.objs.size + 1)) { s with heap := h' }) :
    wpAny (model prog w) A (call (.type "enumerate") [.ref l]) Q E s := by
  obtain ⟨⟨c, dct, dt, sl⟩, hl, hc, n, hd⟩ := hL
  replace hc : c = .type "tuple" := hc
  replace hd : dt = .seq items n := hd
  subst hc hd
  refine callType_new F.called_enumerate (by decide) (F.typeCall_enumerate_1 _) (F.newCall_enumerate_1 _) (fun obj => F.args_object_init_2 obj _) F.entry_enumerate_new
    (meets_enumerate_newT l items n dct sl) ⟨hl, ?_⟩
  have hz : (s.heap.push { cls := .type "tuple_iterator", data := .fields #[.ref l, .int 0 0] }).objs.size = s.heap.objs.size + 1 := Heap.size_push ..
  show _ ∧ _
  rw [hz]
  have he : IsEnum ((s.heap.push { cls := .type "tuple_iterator", data := .fields #[.ref l, .int 0 0] }).push
      { cls := .type "enumerate", data := .fields #[.none, .bool false, .ref s.heap.objs.size, rawInt 0, .none, .none] }) (s.heap.objs.size + 1) s.heap.objs.size 0 .none := by
    have := Heap.get?_push_size (s.heap.push { cls := .type "tuple_iterator", data := .fields #[.ref l, .int 0 0] })
      (o := { cls := .type "enumerate", data := .fields #[.none, .bool false, .ref s.heap.objs.size, rawInt 0, .none, .none] }) rfl
    rw [hz] at this; exact this
  refine ⟨⟨_, he, rfl⟩, h _ he ⟨_, Heap.get?_push_of_some _ (Heap.get?_push_size _ rfl), rfl, rfl⟩ (by rw [Heap.size_push, hz]) fun b o x => Heap.get?_push_of_some _ (Heap.get?_push_of_some _ x)⟩
end
def IteT (K : PySem.W.Frag) (a : Addr) : It :=
  ⟨fun i H => ∃ (xs : List V) (x : V), SqT K H a xs ∧ xs[i]? = some x, fun i H v H' => ∃ T x, v = .ref T ∧ H T = none ∧ H' = upd H T (.tup [.int (i : Nat), x]) ∧ ∀ xs, SqT K H a xs → xs[i]? = some x, fun i H => ∃ xs : List V, SqT K H a xs ∧ xs.length ≤ i⟩
theorem turn_enumT {P : Program} {w : World} {K : PySem.W.Frag} {elts : List Expr} {kk : Nat} {tpos : Pos} (a e it : Addr) :
    Turn P w K (.Tuple elts kk tpos) (IteT K a) [e, it] e (fun i h => (∃ old, IsEnum h e it ((i : Nat) : Int) old) ∧ h.IsTupleIter it a i ∧ e ≠ it) where
  mem := by simp
  obj := fun i h st b hb => by
    obtain ⟨⟨old, he⟩, ⟨o, ho, hc, hd⟩, _⟩ := st
    have e' : b = e ∨ b = it := by simpa using hb
    rcases e' with z | z
    · rw [z]; exact ⟨_, he, fun v q => nomatch q⟩
    · rw [z]; exact ⟨o, ho, fun v q => by rw [hd] at q; cases q⟩
  keep := fun i h h' st k => let ⟨⟨old, he⟩, ⟨o, ho, r⟩, hne⟩ := st; ⟨⟨old, k e (by simp) _ he⟩, ⟨o, k it (by simp) _ ho, r⟩, hne⟩
  item := by
    intro X hP hw hK hc i pins s σ H E I hf st hg
    subst hP hw hK
    obtain ⟨⟨old, he⟩, hit, hne⟩ := st
    obtain ⟨xs, x, hq, hx⟩ := hg
    obtain ⟨its, rv, p, hz⟩ := I.tuple hq
    obtain ⟨u, hu, ru⟩ := rv.get hx
    have hel : e < s.heap.objs.size := Heap.lt_size he
    have hil : it < s.heap.objs.size := by obtain ⟨_, q, _⟩ := hit; exact Heap.lt_size q
    have hT : s.heap.IsTuple a its.toArray := p
    have nea : e ≠ a := fun z => by
      obtain ⟨o, ho, hc, _⟩ := hT
      subst z
      have he' := he
      unfold IsEnum at he'
      rw [ho] at he'
      cases he'
      injection hc with hc
      exact absurd hc (by decide)
    have nia : a ≠ it := fun z => by
      obtain ⟨o, ho, hc, _⟩ := hT
      obtain ⟨o2, ho2, hc2, _⟩ := hit
      subst z
      rw [ho] at ho2
      cases ho2
      rw [hc] at hc2
      injection hc2 with hc2
      exact absurd hc2 (by decide)
    have hi : i < its.toArray.size := by
      have := (List.getElem?_eq_some_iff.mp hu).1
      simpa using this
    refine wpAny_pyNext_enum_itemD (Draws.tuple (show X.A.in1.handled = none from I.ok.hd hc) it a nia its.toArray) he ⟨hit, hT⟩ hi hne (by simp [hne, nea]) fun y h' tk hy ho st' hT2 hsz hk => ?_
    have ey : y = u := by
      have : its.toArray[i]? = some y := hy
      simp at this
      exact Option.some.inj (this.symm.trans hu)
    subst ey
    refine ⟨_, rfl, wpAny_letOwnedTupleGo_enum (s := { s with heap := h', toks := tk + 1 }) ho fun h'' he' sb => ?_⟩
    have hT3 : h''.get? s.heap.objs.size = some { cls := .type "tuple", data := .seq #[.int i tk, y] } := (sb.2 _ (Nat.ne_of_gt hel)).trans hT2
    have new : ObjOk X.prog X.w (upd H s.heap.objs.size (.tup [.int (i : Nat), x])) h'' s.heap.objs.size (.tup [.int (i : Nat), x]) :=
      ⟨by show 2 ≤ sizeLine; decide, [.int i tk, y], .cons ⟨_, rfl⟩ (.cons ru .nil), ⟨_, hT3, rfl, _, rfl⟩⟩
    have I1 : Inv X pins σ (upd H s.heap.objs.size (.tup [.int (i : Nat), x])) { s with heap := h'', toks := tk + 1 } :=
      I.turnedNew (ch := [e, it]) (fun b ob hb q => (sb.2 b (fun z => hb (by simp [z]))).trans (hk b ob (fun z => hb (by simp [z])) (fun z => hb (by simp [z])) q)) hf (Nat.le_refl _) new
    refine ⟨.ref s.heap.objs.size, _, I1, rfl, ⟨_, x, rfl, I.hok.fresh (Nat.le_refl _), rfl, fun ys hy => by rw [I.tuple_inj hy hq]; exact hx⟩, ⟨⟨y, ?_⟩, ?_, hne⟩, fun b hb => ?_⟩
    · have e1 : ((i + 1 : Nat) : Int) = (i : Int) + 1 := by omega
      rw [e1]; exact he'
    · obtain ⟨o, q1, q2⟩ := st'.1
      exact ⟨o, (sb.2 it (Ne.symm hne)).trans q1, q2⟩
    · have hb' : b < s.heap.objs.size := by
        have e' : b = e ∨ b = it := by simpa using hb
        rcases e' with z | z
        · rw [z]; exact hel
        · rw [z]; exact hil
      rw [upd_ne (Nat.ne_of_lt hb')]
      exact (hf b hb).1
  done := by
    intro X hP hw hK hc i pins s σ H E I hf st hg
    subst hP hw hK
    obtain ⟨⟨old, he⟩, hit, hne⟩ := st
    obtain ⟨xs, hq, hx⟩ := hg
    obtain ⟨its, rv, p, hz⟩ := I.tuple hq
    obtain ⟨f0, f1, f2, f3, f4, f5⟩ := hf it (by simp)
    have hl := rv.length
    have hT : s.heap.IsTuple a its.toArray := p
    have hT' : s.TypeIs (.ref e) "enumerate" := ⟨_, he, rfl⟩
    unfold pyNext
    refine wpAny_bind (wpAny_attempt (wpAny_callSpecial?_slot (name := Str.ofString "__next__") hT' F.slot_enumerate_next
      (wpAny_call_entry F.slot_enumerate_next hT' F.entry_enumerate_next ?_ (F.args_enumerate_next_1 _))))
    show wpAny _ _ (field (.ref e) 2 >>= _) _ _ _
    refine wpAny_bind (wpAny_field he rfl (x := .ref it) rfl ?_)
    refine wpAny_bind (wpAny_nextOf_tuple_end (show X.A.in1.handled = none from I.ok.hd hc) hit hT (by simp; omega) fun h' x he' hx' => ?_)
    obtain ⟨o, ho, hc'⟩ := hx'
    refine wpAny_bind (wpAny_isInstance (T := "StopIteration") (b := true) ⟨o, ho, hc'⟩ isSubtype_stop ?_)
    exact wpAny_pure ⟨rfl, I.turned (t' := s.toks) (fun b o hb q => he' b o hb q) f0 f1 f3 f4 f5⟩
  self := fun A i s Q E st h => let ⟨⟨_, he⟩, _⟩ := st; wpAny_pyIter_enum he h
def iEnumT (K : PySem.W.Frag) (ta : TA) : TI := fun σ H R => ta σ H fun vs H1 => ∃ a xs, vs = [.ref a] ∧ SqT K H1 a xs ∧ R (IteT K a) H1
theorem pi_enumT {X : Cx} {e : Expr} {ta : TA} {p pos tpos : Pos} {elts : List Expr} {kk : Nat} (hg : Gl X "enumerate") (hm : X.mg "enumerate" = none) (ha : PA X [e] ta) (hs : starEach [e] X.env = [(false, eval e X.env)] := by rfl) :
    PI X (.Tuple elts kk tpos) (.Call (.Name "enumerate" p) [e] [] pos) (iEnumT X.K ta) := by
  refine ⟨fun pins s σ H R I h => ?_⟩
  refine Call_ (ld_blt I hg hm boot_enumerate (PyProof.Rows.callWith_type1 (thn (ha.run pos pins s σ H _ I h) fun us s1 ⟨vs, H1, I1, r1, q1⟩ => ?_) hs rfl))
  obtain ⟨a, xs, ex, hq, q⟩ := q1
  subst ex
  cases r1 with
  | cons r rr =>
    cases rr
    cases r
    obtain ⟨its, rv, p', hz⟩ := I1.tuple hq
    refine call_enumerate_tuple (show s1.heap.IsTuple a its.toArray from p') fun h' he hit hsz hk => wpAny_pyIter_enum he ?_
    have I2 : Inv X pins σ H1 { s1 with heap := h' } := I1.kept (t' := s1.toks) hk
    refine ⟨s1.heap.objs.size + 1, [s1.heap.objs.size + 1, s1.heap.objs.size], _, _, H1, rfl, I2, turn_enumT a (s1.heap.objs.size + 1) s1.heap.objs.size, ⟨⟨.none, he⟩, hit, Nat.succ_ne_self _⟩, fun b hb => ?_, q⟩
    have e' : b = s1.heap.objs.size + 1 ∨ b = s1.heap.objs.size := by simpa using hb
    have hle : s1.heap.objs.size ≤ b := by
      rcases e' with z | z
      · rw [z]; exact Nat.le_add_right _ _
      · rw [z]; exact Nat.le_refl _
    exact I1.fpOk hle (I1.hok.fresh hle)
open Z (Ext dpUp dpsUp dpsLen dpsGet DxO KyD DEn Cl cut offv bl Dfn)
section
variable {X : Cx} {ex a b c tg iter elt : Expr} {es ifs elts : List Expr} {st : Stmt} {rest body orelse : List Stmt} {m ma mb mc : ME} {ms : MA} {mt mu : MT} {pos p tpos : Pos} {M M1 M2 : MS}
/-- pairs of places and data -/
def enumD (xs : List PyData) : List D := (List.range xs.length).zipWith (fun i x => .d (.tuple [.int (i : Nat), x])) xs
theorem enumD_len (xs : List PyData) : (enumD xs).length = xs.length := by unfold enumD; simp
theorem enumD_get {xs : List PyData} {i : Nat} {x : PyData} (h : xs[i]? = some x) : (enumD xs)[i]? = some (.d (.tuple [.int (i : Nat), x])) := by
  unfold enumD
  have hi := (List.getElem?_eq_some_iff.mp h).1
  rw [List.getElem?_zipWith, List.getElem?_range hi, h]
theorem enumD_at {xs : List PyData} {i : Nat} {d : D} (h : (enumD xs)[i]? = some d) : ∃ x, xs[i]? = some x ∧ d = .d (.tuple [.int (i : Nat), x]) := by
  have hi := (List.getElem?_eq_some_iff.mp h).1
  rw [enumD_len] at hi
  have h1 := enumD_get (List.getElem?_eq_getElem hi)
  rw [h] at h1
  exact ⟨_, List.getElem?_eq_getElem hi, Option.some.inj h1⟩
theorem wk_pair {B : Ba} {w : W} {s : Sto} {H : Hp} {T : Addr} {v : V} {x : PyData} {i : Nat} (g : Ok B w s H) (hT : H T = none) (hv : Dp B.K w.F v x) : ∃ w', w.le w' ∧ Ok B w' s (upd H T (.tup [.int (i : Nat), v])) ∧ VR B w' (.ref T) (.d (.tuple [.int (i : Nat), x])) :=
  tup_ok g hT (.cons (.int _) (.cons hv .nil))
/-- over enumerate(x), x a tuple or a list, of data -/
def iEnum (ms : MA) : MI := fun e s => match ms e s with
  | some ([.d (.tuple xs)], s1) => some (enumD xs, none, s1)
  | some ([.d (.list xs)], s1) => some (enumD xs, none, s1)
  | some ([.r j], s1) => match s1[j]? with
    | some (.lst ds) => match data ds with
      | some xs => some (enumD xs, some (j, ds), s1)
      | none => none
    | _ => none
  | _ => none
theorem ni_enum {kk : Nat} (h : NA X [a] ms) (hm : X.mg "enumerate" = none) (hg : Gl X "enumerate" := by rfl) (hs : starEach [a] X.env = [(false, eval a X.env)] := by rfl) : NI X (.Tuple elts kk tpos) (.Call (.Name "enumerate" p) [a] [] pos) (iEnum ms) := fun e s items ck s1 hmm => by
  unfold iEnum at hmm
  split at hmm
  · rename_i xs s2 e1
    cases hmm
    refine PI.imp (pi_enumT hg hm (h _ _ _ _ e1) hs) fun σ H R ⟨w, g, l, k⟩ => ⟨w, g, l, fun us w1 H1 l1 g1 v1 => ?_⟩
    obtain ⟨u, rfl, h1⟩ := vrs1 v1
    obtain ⟨q, vs, rfl, h2, h3⟩ := dp_tup h1
    refine ⟨q, vs, rfl, g1.ext.t h2, k _ w1 H1 l1 g1 trivial fun w2 s2 H2 l2 g2 _ => ?_⟩
    have hs2 : SqT X.K H2 q vs := g2.ext.t (l2.F.t h2)
    refine ⟨fun i x hx => ?_, _, hs2, by rw [enumD_len, dpsLen h3]; exact Nat.le_refl _⟩
    obtain ⟨y, hy, rfl⟩ := enumD_at hx
    obtain ⟨v, q1, q2⟩ := dpsGet h3 hy
    refine ⟨⟨vs, v, hs2, q1⟩, fun v' H' ⟨T, z, e3, hT, e4, hv⟩ => ?_⟩
    subst e3 e4
    have : v = z := Option.some.inj (q1.symm.trans (hv _ hs2))
    subst this
    exact wk_pair g2 hT (dpUp l2.F _ _ q2)
  · rename_i xs s2 e1
    cases hmm
    refine PI.imp (pi_enum hg hm (h _ _ _ _ e1) hs) fun σ H R ⟨w, g, l, k⟩ => ⟨w, g, l, fun us w1 H1 l1 g1 v1 => ?_⟩
    obtain ⟨u, rfl, h1⟩ := vrs1 v1
    have h1' : Dp X.K w1.F u (.list xs) := h1
    obtain ⟨q, vs, rfl, h2, h3⟩ : ∃ q vs, u = .ref q ∧ SqL X.K w1.F q vs ∧ DpAll X.K w1.F vs xs := by
      cases h1' with
      | lst a b => exact ⟨_, _, rfl, a, b⟩
    refine ⟨q, vs, rfl, g1.ext.l h2, k _ w1 H1 l1 g1 trivial fun w2 s2 H2 l2 g2 _ => ?_⟩
    have hs2 : SqL X.K H2 q vs := g2.ext.l (l2.F.l h2)
    refine ⟨fun i x hx => ?_, _, hs2, by rw [enumD_len, dpsLen h3]; exact Nat.le_refl _⟩
    obtain ⟨y, hy, rfl⟩ := enumD_at hx
    obtain ⟨v, q1, q2⟩ := dpsGet h3 hy
    refine ⟨⟨vs, v, hs2, q1⟩, fun v' H' ⟨T, z, e3, hT, e4, hv⟩ => ?_⟩
    subst e3 e4
    have : v = z := Option.some.inj (q1.symm.trans (hv _ hs2))
    subst this
    exact wk_pair g2 hT (dpUp l2.F _ _ q2)
  · rename_i j s2 e1
    split at hmm
    · rename_i ds e2
      split at hmm
      · rename_i xs e3
        cases hmm
        refine PI.imp (pi_enum hg hm (h _ _ _ _ e1) hs) fun σ H R ⟨w, g, l, k⟩ => ⟨w, g, l, fun us w1 H1 l1 g1 v1 => ?_⟩
        obtain ⟨u, rfl, h1⟩ := vrs1 v1
        obtain ⟨q, h1, rfl⟩ := h1
        obtain ⟨_, vs, h2, h3⟩ := g1.ce _ _ q e2 h1
        refine ⟨q, vs, rfl, .of h2, k _ w1 H1 l1 g1 e2 fun w2 s2 H2 l2 g2 c2 => ?_⟩
        obtain ⟨_, us, h4, h5⟩ := g2.ce _ _ q c2 (pre_get l2.ρ h1)
        have hs2 : SqL X.K H2 q us := .of h4
        rw [data_eq e3] at h5
        have h5 := VRs.data.mp h5
        refine ⟨fun i x hx => ?_, _, hs2, by rw [enumD_len, dpsLen h5]; exact Nat.le_refl _⟩
        obtain ⟨y, hy, rfl⟩ := enumD_at hx
        obtain ⟨v, q1, q2⟩ := dpsGet h5 hy
        refine ⟨⟨us, v, hs2, q1⟩, fun v' H' ⟨T, z, e3, hT, e4, hv⟩ => ?_⟩
        subst e3 e4
        have : v = z := Option.some.inj (q1.symm.trans (hv _ hs2))
        subst this
        exact wk_pair g2 hT q2
      · cases hmm
    · cases hmm
  · cases hmm
end
end N

namespace N
open PySem L2 PyProof.Rows
open Z (Ext dpUp dpsUp dpsLen dpsGet DxO KyD DEn Cl cut offv bl Dfn)
def kGet (kvs : List (Key × D)) (k : Key) : Option D := (kvs.find? fun kv => decide (kv.1 = k)).map (·.2)
def kPut (kvs : List (Key × D)) (k : Key) (d : D) : List (Key × D) := if kHas kvs k then kvs.map fun kv => if kv.1 = k then (kv.1, d) else kv else kvs ++ [(k, d)]
section
variable {B : Ba} {w : W} {k : Key}
theorem KR.has : ∀ {xs : List (Key × V)} {kvs : List (Key × D)}, KR B w xs kvs → (xs.any fun kv => decide (kv.1 = k)) = kHas kvs k
  | [], [], _ => rfl
  | e :: xs, kv :: kvs, ⟨⟨h1, _⟩, h⟩ => by
    unfold kHas
    rw [List.any_cons, List.any_cons, h1, KR.has h]
    rfl
  | [], _ :: _, h => h.elim
  | _ :: _, [], h => h.elim
theorem KR.val : ∀ {xs : List (Key × V)} {kvs : List (Key × D)}, KR B w xs kvs → (valV xs k).isSome = kHas kvs k ∧ ∀ d, kGet kvs k = some d → ∃ v, valV xs k = some v ∧ VR B w v d
  | [], [], _ => ⟨rfl, fun d h => by cases h⟩
  | e :: xs, kv :: kvs, ⟨⟨h1, h2⟩, h⟩ => by
    obtain ⟨ih1, ih2⟩ := KR.val h
    unfold valV kGet at *
    unfold kHas at *
    rw [Option.isSome_map] at ih1
    rw [List.any_cons, List.find?_cons, List.find?_cons, h1]
    by_cases hk : kv.1 = k
    · simp only [hk, decide_true, Option.map_some, Option.isSome_some, Bool.true_or, true_and]
      intro d hd
      cases hd
      exact ⟨_, rfl, h2⟩
    · simp only [hk, decide_false, Bool.false_or]
      refine ⟨by rw [Option.isSome_map]; exact ih1, ih2⟩
  | [], _ :: _, h => h.elim
  | _ :: _, [], h => h.elim
theorem KR.put {v : V} {d : D} (hv : VR B w v d) {xs : List (Key × V)} {kvs : List (Key × D)} (h : KR B w xs kvs) : KR B w (putK xs k v) (kPut kvs k d) := by
  have mp : ∀ {xs : List (Key × V)} {kvs : List (Key × D)}, KR B w xs kvs → KR B w (xs.map fun kv => if kv.1 = k then (kv.1, v) else kv) (kvs.map fun kv => if kv.1 = k then (kv.1, d) else kv) := by
    intro xs
    induction xs with
    | nil => intro kvs h; cases kvs with
      | nil => trivial
      | cons => exact h.elim
    | cons e xs ih => intro kvs h; cases kvs with
      | nil => exact h.elim
      | cons kv kvs =>
        obtain ⟨⟨h1, h2⟩, h3⟩ := h
        refine ⟨?_, ih h3⟩
        dsimp only
        by_cases hk : kv.1 = k
        · rw [if_pos (h1.trans hk), if_pos hk]; exact ⟨h1, hv⟩
        · rw [if_neg (by rw [h1]; exact hk), if_neg hk]; exact ⟨h1, h2⟩
  have ap : ∀ {xs : List (Key × V)} {kvs : List (Key × D)}, KR B w xs kvs → KR B w (xs ++ [(k, v)]) (kvs ++ [(k, d)]) := by
    intro xs
    induction xs with
    | nil => intro kvs h; cases kvs with
      | nil => exact ⟨⟨rfl, hv⟩, trivial⟩
      | cons => exact h.elim
    | cons e xs ih => intro kvs h; cases kvs with
      | nil => exact h.elim
      | cons kv kvs => exact ⟨h.1, ih h.2⟩
  unfold putK kPut
  rw [h.has]
  split
  · exact mp h
  · exact ap h
end
theorem chg_dk {B : Ba} {w : W} {s : Sto} {H : Hp} {v : V} {j : Nat} {kvs : List (Key × D)} (g : Ok B w s H) (hv : VR B w v (.r j)) (hs : s[j]? = some (.dk kvs)) :
    ∃ a xs, v = .ref a ∧ H a = some (.dK xs) ∧ KR B w xs kvs ∧ ∀ kvs' xs', KR B w xs' kvs' → Ok B w (s.set j (.dk kvs')) (upd H a (.dK xs')) := by
  obtain ⟨a, h1, rfl⟩ := hv
  obtain ⟨hF, xs, h2, h3⟩ := g.ce _ _ a hs h1
  exact ⟨a, xs, rfl, h2, h3, fun kvs' xs' h => g.chg h1 hF ⟨hF, xs', upd_same, h⟩⟩
section
variable {X : Cx} {ex a b c tg iter elt kx vx : Expr} {es ifs elts : List Expr} {st : Stmt} {rest body orelse : List Stmt} {m ma mb mc : ME} {ms : MA} {mt mu : MT} {pos p tpos : Pos} {M M1 M2 : MS}
def eDicK : ME := fun _ s => some (.r s.length, s ++ [.dk []])
theorem in_dk {neg : Bool} {s : Sto} {a : D} {j : Nat} {kvs : List (Key × D)} {k : Bool} (h : cIn neg s a (.r j) = some k) (e : s[j]? = some (.dk kvs)) : ∃ x kk, a = .d x ∧ keyOf x = some kk ∧ k = (if neg then !kHas kvs kk else kHas kvs kk) := by
  unfold cIn at h
  simp only [e] at h
  split at h
  · rename_i x
    split at h
    · rename_i kk e2
      cases h
      exact ⟨x, kk, rfl, e2, rfl⟩
    · cases h
  · cases h
theorem nt_in {neg : Bool} {op : CmpOp} (hop : (op = .In ∧ neg = false) ∨ (op = .NotIn ∧ neg = true)) (hu : X.A.units + 64 < cLine) (ha : NE X a ma) (hb : NE X b mb) (hm : behindInMarks op b = false := by rfl) : NT X (.Compare a [op] [b] pos) (tCmp (cIn neg) ma mb) := fun e s k s' h => by
  unfold tCmp at h
  split at h
  · rename_i x s1 e1
    split at h
    · rename_i y s2 e2
      split at h
      · rename_i k' ek
        cases h
        by_cases hd : ∃ j kvs, y = .r j ∧ s'[j]? = some (.dk kvs)
        · obtain ⟨j, kvs, rfl, hj⟩ := hd
          obtain ⟨dx, kk, rfl, hk, rfl⟩ := in_dk ek hj
          rcases hop with ⟨rfl, rfl⟩ | ⟨rfl, rfl⟩
          · refine PT.imp (pt_cmp (pc_din (by omega) (ha _ _ _ _ e1) (hb _ _ _ _ e2)) hm) fun σ H Q ⟨w, g, l, q⟩ => ⟨w, g, l, fun v w1 H1 l1 g1 v1 => ⟨w1, g1, l.up l1, fun u w2 H2 l2 g2 v2 => ?_⟩⟩
            obtain ⟨p1, xs, rfl, h2, h3, _⟩ := chg_dk g2 v2 hj
            have hv := keyOf_ok hk (v1.up l2)
            refine ⟨p1, valV xs kk, rfl, .inl ⟨xs, kk, .inl h2, hv, rfl⟩, _, rfl, ?_⟩
            rw [(h3.val (k := kk)).1]
            exact q w2 H2 (l1.trans l2) g2
          · refine PT.imp (pt_cmp (pc_dnotin (by omega) (ha _ _ _ _ e1) (hb _ _ _ _ e2)) hm) fun σ H Q ⟨w, g, l, q⟩ => ⟨w, g, l, fun v w1 H1 l1 g1 v1 => ⟨w1, g1, l.up l1, fun u w2 H2 l2 g2 v2 => ?_⟩⟩
            obtain ⟨p1, xs, rfl, h2, h3, _⟩ := chg_dk g2 v2 hj
            have hv := keyOf_ok hk (v1.up l2)
            refine ⟨p1, valV xs kk, rfl, .inl ⟨xs, kk, .inl h2, hv, rfl⟩, _, rfl, ?_⟩
            rw [(h3.val (k := kk)).1]
            exact q w2 H2 (l1.trans l2) g2
        · have nd : ∀ j kvs, y = .r j → s'[j]? ≠ some (.dk kvs) := fun j kvs e1 e2 => hd ⟨j, kvs, e1, e2⟩
          have go : ∀ {q : R2}, OpR X (compareOp op) q → BiN (ba X) q s' x y (.d (.bool k)) s' → PT X (.Compare a [op] [b] pos) (tT (ba X) e s k s') := fun hq hB => by
            refine PT.imp (pt_cmpR hq (ha _ _ _ _ e1) (hb _ _ _ _ e2) hm) fun σ H Q ⟨w, g, l, q'⟩ => ?_
            refine bi_run hB σ H _ ⟨w, g, l, fun v w' H' l' g' v' => ?_⟩
            exact ⟨k, vr_bl v', q' w' H' l' g'⟩
          rcases hop with ⟨rfl, rfl⟩ | ⟨rfl, rfl⟩
          · obtain ⟨q, hq, hB⟩ := cIn_ok Z.op_inZ (Z.op_inX (by omega)) hu ek nd
            exact go hq hB
          · obtain ⟨q, hq, hB⟩ := cIn_ok Z.op_ninZ (Z.op_ninX (by omega)) hu ek nd
            exact go hq hB
      · cases h
    · cases h
  · cases h
/-- d[k], keys ints and texts -/
def eIxK (ma mb : ME) : ME := eBin (fun s a b => match a, b with
  | .r j, .d x => match s[j]? with
    | some (.dk kvs) => match keyOf x with
      | some k => match kGet kvs k with
        | some d => some (d, s)
        | none => none
      | none => none
    | _ => none
  | _, _ => none) ma mb
theorem n_ixK (hu : X.A.units + 64 < cLine) (ha : NE X a ma) (hb : NE X b mb) (hs : NoSl b := by intro _ _; rfl) : NE X (.Subscript a b pos) (eIxK ma mb) := fun e s z s' h => by
  obtain ⟨x, s1, y, s2, e1, e2, e3⟩ := bin_cases h
  split at e3
  · rename_i j x
    split at e3
    · rename_i kvs e4
      split at e3
      · rename_i kk hk
        split at e3
        · rename_i d e5
          cases e3
          refine PE.imp (pe_dget (by omega) (ha _ _ _ _ e1) (hb _ _ _ _ e2) hs) fun σ H Q ⟨w, g, l, q⟩ => ⟨w, g, l, fun v w1 H1 l1 g1 v1 => ⟨w1, g1, l.up l1, fun u w2 H2 l2 g2 v2 => ?_⟩⟩
          obtain ⟨p1, xs, rfl, h2, h3, _⟩ := chg_dk g2 (v1.up l2) e4
          obtain ⟨vv, h4, h5⟩ := (h3.val (k := kk)).2 _ e5
          exact ⟨p1, vv, rfl, .inl ⟨xs, kk, .inl h2, keyOf_ok hk v2, h4.symm⟩, q _ w2 H2 (l1.trans l2) g2 h5⟩
        · cases e3
      · cases e3
    · cases e3
  · cases e3
noncomputable def eIt (ma mb : ME) : ME := fun e s => match eItem ma mb e s with
  | some r => some r
  | none => eIxK ma mb e s
theorem n_it (hu : X.A.units + 64 < cLine) (ha : NE X a ma) (hb : NE X b mb) (hs : PlainIx b := by intro _ _; rfl) (hs2 : NoSl b := by intro _ _; rfl) : NE X (.Subscript a b pos) (eIt ma mb) := fun e s z s' h => by
  unfold eIt at h
  split at h
  · rename_i r e1
    cases h
    exact n_item hu ha hb hs _ _ _ _ e1
  · exact n_ixK hu ha hb hs2 _ _ _ _ h
def sPutK (ma mi mv : ME) : MS := fun e s => match mv e s with
  | some (d, s1) => match ma e s1 with
    | some (.r j, s2) => match mi e s2 with
      | some (.d x, s3) => match s3[j]? with
        | some (.dk kvs) => match keyOf x with
          | some k => if kvs.length < lim then some (.nx, e, s3.set j (.dk (kPut kvs k d))) else none
          | none => none
        | _ => none
      | _ => none
    | _ => none
  | none => none
theorem ns_putK {tpos : Pos} {mi mv : ME} (hu : X.A.units + 64 < cLine) (hv : NE X ex mv) (ha : NE X a ma) (hi : NE X b mi) (hs : swapsWith ex (some (.Subscript a b tpos)) pos.line X.env = pure false := by rfl) : NS X (.Assign [.Subscript a b tpos] ex pos) (sPutK ma mi mv) := fun e s fl e' s' bb hm hb => by
  unfold sPutK at hm
  split at hm
  · rename_i d s1 e1
    split at hm
    · rename_i j s2 e2
      split at hm
      · rename_i x s3 e3
        split at hm
        · rename_i kvs e4
          split at hm
          · rename_i kk hk
            split at hm
            · rename_i hl
              cases hm
              refine Z.PS.imp (ps_dput (by omega) (ha _ _ _ _ e2) (hi _ _ _ _ e3) (hv _ _ _ _ e1) hs) fun Dn σ H ⟨w, g, l, k⟩ => ⟨w, g, l, fun v w1 H1 l1 g1 v1 => ⟨w1, g1, l.up l1, fun u w2 H2 l2 g2 v2 => ⟨w2, g2, (l.up l1).up l2, fun z w3 H3 l3 g3 v3 => ?_⟩⟩⟩
              obtain ⟨p1, xs, rfl, h2, h3, h4⟩ := chg_dk g3 (v2.up l3) e4
              refine ⟨p1, _, rfl, .inl ⟨xs, kk, h2, keyOf_ok hk v3, by rw [h3.len]; exact Nat.lt_trans hl lim_lt, rfl⟩, ?_⟩
              exact k w3 σ _ (((l1.trans l2).trans l3).cut bb) (h4 _ _ (h3.put ((v1.up l2).up l3))) (((l.up l1).up l2).up l3)
            · cases hm
          · cases hm
        · cases hm
      · cases hm
    · cases hm
  · cases hm
noncomputable def sPu (ma mi mv : ME) : MS := fun e s => match sPutU ma mi mv e s with
  | some r => some r
  | none => sPutK ma mi mv e s
theorem ns_pu {tpos : Pos} {mi mv : ME} (hu : X.A.units + 64 < cLine) (hv : NE X ex mv) (ha : NE X a ma) (hi : NE X b mi)
    (hsub : ∀ v, assign (.Subscript a b tpos) X.env v = (do
      let ov ← holding [v] (eval a X.env)
      let iv ← holding [v, ov] (eval b X.env)
      standAt tpos
      holding [v, ov, iv] (setItem ov iv v)
      release [v, ov, iv] []) := by intro _; rfl)
    (hs : swapsWithSole [.Subscript a b tpos] ex pos.line X.env = pure false := by rfl) (hw : swappedStores [.Subscript a b tpos] ex X.env = pure none := by rfl) (h1 : (assignEach [.Subscript a b tpos] X.env).map (·.2) = [assign (.Subscript a b tpos) X.env] := by rfl)
    (hs2 : swapsWith ex (some (.Subscript a b tpos)) pos.line X.env = pure false := by rfl) :
    NS X (.Assign [.Subscript a b tpos] ex pos) (sPu ma mi mv) := fun e s fl e' s' bb hm hb => by
  unfold sPu at hm
  split at hm
  · rename_i r e1
    cases hm
    exact ns_putU hu hv ha hi hsub hs hw h1 _ _ _ _ _ _ e1 hb
  · exact ns_putK hu hv ha hi hs2 _ _ _ _ _ _ hm hb

open Classical in
noncomputable def dcL (k : Nat) (ck : Option (Nat × List D)) (g : MG) (mt : MT) (ek el : ME) (e0 : Lo) : List D → Sto → Option Sto
  | [], s => if chkOk ck s then some s else none
  | x :: xs, s => if chkOk ck s then match g x e0 with
      | some e1 => match mt e1 s with
        | some (true, s1) => match ek e1 s1 with
          | some (.d kd, s2) => match el e1 s2 with
            | some (y, s3) => match s3[k]? with
              | some (.dk kvs) => match keyOf kd with
                | some kk => if kvs.length < lim then dcL k ck g mt ek el e0 xs (s3.set k (.dk (kPut kvs kk y))) else none
                | none => none
              | _ => none
            | none => none
          | _ => none
        | some (false, s1) => dcL k ck g mt ek el e0 xs s1
        | none => none
      | none => none
    else none
noncomputable def eDc (vs : List Nat) (mi : MI) (g : MG) (mt : MT) (ek el : ME) : ME := fun e s => match mi e s with
  | some (items, ck, s1) => match dcL s1.length ck g mt ek el (wipeN e vs) items (s1 ++ [.dk []]) with
    | some s2 => some (.r s1.length, s2)
    | none => none
  | none => none
theorem dc_run {mi : MI} {g : MG} {ek el : ME} {vs : List Nat} {e : Lo} {s s' : Sto} {d : D} (h : eDc vs mi g mt ek el e s = some (d, s')) {wi : TI} (hw : ∀ items ck s1 σ H R, mi e s = some (items, ck, s1) → tI (ba X) e s items ck s1 σ H R → wi σ H R)
    {G : TG} {TT' : TT} {KK EE : TE} (hG : ∀ s d e e' v σ H Q, g d e = some e' → tG (ba X) vs s d e e' v σ H Q → G v σ H Q) (hT : ∀ e s b s' σ H Q, mt e s = some (b, s') → tT (ba X) e s b s' σ H Q → TT' σ H Q)
    (hK' : ∀ e s d s' σ H Q, ek e s = some (d, s') → tE (ba X) e s d s' σ H Q → KK σ H Q) (hE : ∀ e s d s' σ H Q, el e s = some (d, s') → tE (ba X) e s d s' σ H Q → EE σ H Q) :
    ∀ σ H Q, tE (ba X) e s d s' σ H Q → tDc wi G TT' KK EE vs σ H Q := by
  intro σ H Q ⟨w, g0, l, k⟩
  unfold eDc at h
  split at h
  · rename_i items ck s1 e1
    split at h
    · rename_i sF eF
      refine hw _ _ _ _ _ _ e1 ⟨w, g0, l, fun J w1 H1 l1 g1 ck1 wk D hD => ?_⟩
      have gD : Ok (ba X) ⟨w1.F, w1.ρ ++ [D]⟩ (s1 ++ [.dk []]) (upd H1 D (.dK [])) := g1.new hD ⟨ext_none g1.ext hD, [], upd_same, trivial⟩
      have lD : w1.le ⟨w1.F, w1.ρ ++ [D]⟩ := Ok.new_le
      have atD : (w1.ρ ++ [D])[s1.length]? = some D := by rw [← g1.lr, List.getElem?_append_right (Nat.le_refl _), Nat.sub_self]; rfl
      refine ⟨fun i m H' => m = items.length - i ∧ i ≤ items.length ∧ ∃ s2 w2, dcL s1.length ck g mt ek el (wipeN e vs) (items.drop i) s2 = some sF ∧ W.le ⟨w1.F, w1.ρ ++ [D]⟩ w2 ∧ Ok (ba X) w2 s2 H', ⟨_, rfl, Nat.zero_le _, _, _, eF, W.le.refl _, gD⟩, ?_⟩
      rintro i m H' ⟨rfl, hi', s2, w2, hf, l2, g2⟩
      have slw : ∀ {w' : W}, W.le ⟨w1.F, w1.ρ ++ [D]⟩ w' → Sl (ba X) w' (wipeN e vs) (wipe σ vs) := fun h => (l.up ((l1.trans lD).trans h)).wipe vs
      by_cases hlt : i < items.length
      · rw [List.drop_eq_getElem_cons hlt] at hf
        unfold dcL at hf
        split at hf
        · rename_i hck
          obtain ⟨wk1, _⟩ := wk w2 s2 H' (lD.trans l2) g2 hck
          obtain ⟨go, yl⟩ := wk1 i items[i] (List.getElem?_eq_getElem hlt)
          refine .inr ⟨go, fun H3 => ∃ s3 w3, dcL s1.length ck g mt ek el (wipeN e vs) (items.drop (i + 1)) s3 = some sF ∧ W.le ⟨w1.F, w1.ρ ++ [D]⟩ w3 ∧ Ok (ba X) w3 s3 H3, fun H3 h3 => ⟨items.length - (i + 1), by omega, rfl, hlt, h3⟩, fun v H4 y => ?_⟩
          obtain ⟨w4, l4, g4, v4⟩ := yl v H4 y
          cases hgx : g items[i] (wipeN e vs) with
          | none => rw [hgx] at hf; cases hf
          | some e3 =>
            rw [hgx] at hf
            refine hG _ _ _ _ _ _ _ _ hgx ⟨w4, g4, slw (l2.trans l4), v4, fun σ5 o l5 => ⟨Z.wipe_off o, ?_⟩⟩
            cases hM : mt e3 s2 with
            | none => simp only [hM] at hf; cases hf
            | some z =>
              obtain ⟨bb, s5⟩ := z
              simp only [hM] at hf
              refine hT _ _ _ _ _ _ _ hM ⟨w4, g4, l5, fun w6 H6 l6 g6 => ?_⟩
              cases bb with
              | false =>
                dsimp only
                rw [if_neg Bool.false_ne_true]
                exact ⟨s5, w6, hf, (l2.trans l4).trans l6, g6⟩
              | true =>
                dsimp only
                rw [if_pos rfl]
                cases hK : ek e3 s5 with
                | none => simp only [hK] at hf; cases hf
                | some z =>
                  obtain ⟨kd0, s7⟩ := z
                  simp only [hK] at hf
                  cases kd0 with
                  | r j => cases hf
                  | d kd =>
                    refine hK' _ _ _ _ _ _ _ hK ⟨w6, g6, l5.up l6, fun uk w7 H7 l7 g7 v7 => ?_⟩
                    cases hE2 : el e3 s7 with
                    | none => simp only [hE2] at hf; cases hf
                    | some z =>
                      obtain ⟨yd, s8⟩ := z
                      simp only [hE2] at hf
                      refine hE _ _ _ _ _ _ _ hE2 ⟨w7, g7, (l5.up l6).up l7, fun u w8 H8 l8 g8 v8 => ?_⟩
                      have l18 := (((l2.trans l4).trans l6).trans l7).trans l8
                      have at8 : w8.ρ[s1.length]? = some D := pre_get l18.ρ atD
                      split at hf
                      · rename_i kvs e8
                        split at hf
                        · rename_i kk ekk
                          split at hf
                          · rename_i hl
                            obtain ⟨a9, xs9, q1, q2, q3, q4⟩ := chg_dk (v := .ref D) g8 ⟨D, at8, rfl⟩ e8
                            cases q1
                            exact ⟨xs9, kk, keyOf_ok ekk (v7.up l8), q2, by rw [q3.len]; exact Nat.lt_trans hl lim_lt, _, w8, hf, l18, q4 _ _ (q3.put v8)⟩
                          · cases hf
                        · cases hf
                      · cases hf
        · cases hf
      · have e' : i = items.length := by omega
        subst e'
        rw [List.drop_length] at hf
        unfold dcL at hf
        split at hf
        · rename_i hck
          cases hf
          cases h
          obtain ⟨_, st⟩ := wk w2 _ H' (lD.trans l2) g2 hck
          exact .inl ⟨st, k _ w2 H' ((l1.trans lD).trans l2) g2 ⟨D, pre_get l2.ρ atD, rfl⟩⟩
        · cases hf
    · cases h
  · cases h
theorem ps_setDc {i : Nat} {y : Str} {py : Pos} {scope : Scope} {own : List (Str × Nat)} {spos : Pos} {wi : TI} {g : TG} {tt : TT} {tk tv : TE} (hc : X.calm = true) (hN : X.N.Nodup) (hy : X.N[i]? = some y) (hyl : X.env.scope.names.lookup y = some .local)
    (hsw : swapsWith (.DictComp kx vx [⟨tg, iter, ifs, 0⟩] scope pos) (some (.Name y py)) spos.line X.env = pure true) (hi : PI X tg iter wi) (ok : BlkOk X.N X.env.scope scope own)
    (hg : ∀ (s : Shared) (H : Hp) (C : Addr) (cl : List (Str × Addr)) (fp : List Addr), PG (X.blk s H scope (compEnvC scope cl C X.env) fp) tg g) (ht : ∀ (s : Shared) (H : Hp) (C : Addr) (cl : List (Str × Addr)) (fp : List Addr), PTs (X.blk s H scope (compEnvC scope cl C X.env) fp) ifs tt)
    (hk : ∀ (s : Shared) (H : Hp) (C : Addr) (cl : List (Str × Addr)) (fp : List Addr), PE (X.blk s H scope (compEnvC scope cl C X.env) fp) kx tk) (he : ∀ (s : Shared) (H : Hp) (C : Addr) (cl : List (Str × Addr)) (fp : List Addr), PE (X.blk s H scope (compEnvC scope cl C X.env) fp) vx tv) (hs : ∀ x, foldedSetIterable iter X.env x = pure x) :
    PS X (.Assign [.Name y py] (.DictComp kx vx [⟨tg, iter, ifs, 0⟩] scope pos) spos) (tAsg (tDc wi g tt tk tv (own.map (·.2))) (L2.gName i)) := by
  refine ⟨fun pins s σ H D I h => ?_⟩
  rw [exec_Assign_Name_used _ _ _ _ hsw]
  refine wpAny_bind (wpAny_standAt (wpAny_bind ?_))
  show wpAny _ X.A (do let _ ← comprehension (.DictComp kx vx [⟨tg, iter, ifs, 0⟩] scope pos) scope X.env (firstIterPos [⟨tg, iter, ifs, 0⟩] pos) newDict false (eval iter X.env) (some (assign (.Name y py) X.env))) _ _ s
  have h : tDc wi g tt tk tv (own.map (·.2)) σ H (fun x H1 => L2.gName i x σ H1 D.nx) := h
  refine wpAny_bind (thn (dc_core (Qf := fun _ s' => SP X pins D .next s') hc hN I hi ok hg ht hk he hs h fun L C s' m H' I' q hn f => ?_) fun _ s' hq => wpAny_pure (wpAny_pure hq))
  show wpAny _ _ (assign (.Name y py) X.env (.ref L)) _ _ _
  refine wpAny_assign_Name (store_ok2 (v := V.ref L) I' hN hy (.inl hyl) rfl (fun s2 I2 ⟨a, sb, ha⟩ => ?_) (.inr hyl))
  obtain ⟨f0, f1, f2, f3, f4, f5⟩ := f
  have haC : C ≠ a := by
    rcases ha with z | z
    · rw [z]; exact f1
    · exact fun e => f4 y a z e.symm
  refine ⟨m, hn.sameBut sb haC, fun h3 sb3 => ?_⟩
  exact ⟨_, H', I2.turned (t' := s2.toks) (fun b o hb e => (sb3.2 b hb).trans e) f0 f1 f3 f4 f5, q⟩
section
variable {scope : Scope} {own : List (Str × Nat)} {vs : List Nat} {mi : MI} {g : MG} {ek el : ME}
theorem ns_setDc {y : Str} {py spos : Pos} (i : Nat) (hi : NI X tg iter mi) (hg : ∀ z, NG (bl X scope z) tg vs g) (ht : ∀ z, NTs (bl X scope z) ifs mt) (hk : ∀ z, NE (bl X scope z) kx ek) (he : ∀ z, NE (bl X scope z) vx el) (hN : X.N.Nodup) (ok : BlkOk X.N X.env.scope scope own) (hvs : own.map (·.2) = vs := by rfl) (hc : X.calm = true := by rfl) (hs : ∀ x, foldedSetIterable iter X.env x = pure x := by intro _; rfl)
    (hy : X.N[i]? = some y := by rfl) (hyl : X.env.scope.names.lookup y = some .local := by rfl) (hsw : swapsWith (.DictComp kx vx [⟨tg, iter, ifs, 0⟩] scope pos) (some (.Name y py)) spos.line X.env = pure true := by rfl) :
    NS X (.Assign [.Name y py] (.DictComp kx vx [⟨tg, iter, ifs, 0⟩] scope pos) spos) (sSet i (eDc vs mi g mt ek el)) := fun e s fl e' s' b hm hb => by
  subst hvs
  unfold sSet at hm
  split at hm
  · rename_i d s1 h
    cases hm
    refine Z.PS.imp (ps_setDc hc hN hy hyl hsw hi.fam ok (fun sh H C cl fp => (show PG (X.blk sh H scope (compEnvC scope cl C X.env) fp) tg (fun v σ H Q => ∃ s d e e', g d e = some e' ∧ tG (ba X) (own.map (·.2)) s d e e' v σ H Q) from (hg (sh, H, C, cl, fp)).fam))
    (fun sh H C cl fp => (⟨fun pins sh' σ H' Q I ⟨e, s, b, s', hm, q⟩ => (ht (sh, H, C, cl, fp) e s b s' hm).run pins sh' σ H' Q I q⟩ : PTs _ ifs (fun σ H Q => ∃ e s b s', mt e s = some (b, s') ∧ tT (ba X) e s b s' σ H Q)))
    (fun sh H C cl fp => (show PE (X.blk sh H scope (compEnvC scope cl C X.env) fp) kx (fun σ H Q => ∃ e s d s', ek e s = some (d, s') ∧ tE (ba X) e s d s' σ H Q) from (hk (sh, H, C, cl, fp)).fam))
    (fun sh H C cl fp => (show PE (X.blk sh H scope (compEnvC scope cl C X.env) fp) vx (fun σ H Q => ∃ e s d s', el e s = some (d, s') ∧ tE (ba X) e s d s' σ H Q) from (he (sh, H, C, cl, fp)).fam)) hs) fun Dn σ H ⟨w, G, l, k⟩ => ?_
    refine dc_run h (fun items ck s1 σ H R h1 h2 => ⟨e, s, items, ck, s1, h1, h2⟩) (fun s d e e' v σ H Q h1 h2 => ⟨s, d, e, e', h1, h2⟩) (fun e s b s' σ H Q h1 h2 => ⟨e, s, b, s', h1, h2⟩) (fun e s d s' σ H Q h1 h2 => ⟨e, s, d, s', h1, h2⟩) (fun e s d s' σ H Q h1 h2 => ⟨e, s, d, s', h1, h2⟩) σ H _ ⟨w, G, l, fun v w1 H1 l1 g1 v1 => ?_⟩
    exact k w1 _ H1 (l1.cut b) g1 ((l.up l1).put i v1)
  · cases hm
end
end
end N

namespace N
open PySem L2 PyProof.Rows
open Z (Ext dpUp dpsUp dpsLen dpsGet DxO KyD DEn Cl cut offv bl Dfn)
section
variable {X : Cx} {ex a b c tg iter tg1 iter1 elt e : Expr} {es ifs ifs1 elts : List Expr} {st : Stmt} {rest body orelse : List Stmt} {m ma mb mc : ME} {ms : MA} {mt mu : MT} {pos p q p2 tpos : Pos} {M M1 M2 : MS}

section
variable {scope : Scope} {own : List (Str × Nat)} {ow : Bool} {vs vs1 : List Nat} {mi mi1 : MI} {g g1 : MG} {mt1 : MT} {el : ME}
end
end
end N

namespace N
open PySem L2 PyProof.Rows
open Z (Ext dpUp dpsUp dpsLen dpsGet DxO KyD DEn Cl cut offv bl Dfn)

section
variable {X : Cx} {pins : List (Addr × Obj)} {σ : L2.St} {H : Hp} {s : Shared}
def keysOf (xs : List DEn) : List Z.SEn := xs.map fun e => (e.2.1, e.1)
def rSortDict (K : PySem.W.Frag) (P : Program) (w : World) (u : Nat) : List V → Hp → VK → Prop := fun vs H Q => ∃ (a : Addr) (xs : List DEn), vs = [V.ref a] ∧ H a = some (DxO P w a xs) ∧ (∀ e ∈ xs, KyD K H e.2.1 e.1) ∧ PySem.W.AllAlike (xs.map (·.1)) ∧ Z.SrtK (xs.map (·.1)) ∧ (∀ e ∈ xs, u + 2 + e.1.depth < cLine) ∧
  ∀ (p : Addr) (M : List Z.SEn), M.Perm (keysOf xs) → M.map (·.2) = Z.srt (xs.map (·.1)) → H p = none → Q (.ref p) (upd H p (.lst (M.map fun q => V.ref q.1)))
theorem cr_sortDict (hc : X.calm = true) : CallR X (.builtin "sorted") (rSortDict X.K X.prog X.w X.A.units) := by
  intro pins s σ H vs us Q I r h
  obtain ⟨a, xs, rfl, ha, hk, al, so, hu, q⟩ := h
  have kk : ∀ p ∈ keysOf xs, Z.KH s.heap p.1 p.2 := fun p hp => by
    obtain ⟨e, he, rfl⟩ := List.mem_map.mp hp
    exact Z.kh_of I (hk e he)
  obtain ⟨z, lo, o, es, ep, ho, hx, hdt, he, hn⟩ := Z.dx_of I.hok ha
  rw [Vals.ref1 r]
  have l1 : es.size = xs.length := by rw [← Array.length_toList, he, List.length_map]
  have eL : (keysOf xs).map (·.2) = xs.map (·.1) := by simp [keysOf]
  refine Calls.call_function_entry PyProof.Rows.kind_sorted PyProof.Rows.plain_sorted PyProof.Rows.entry_sorted (PyProof.Rows.args_sorted1 _) ?_
  unfold Builtin.«sorted»
  refine wpAny_bind (m := checkCount "sorted" 1 1 _) (wpAny_pure ?_)
  refine wpAny_bind (PySem.W.kdu_collect (A := X.A.in1) (kdl_raw (prog := X.prog) (w := X.w) lo hx hdt) (I.ok.hd hc) ho (by omega) fun h' tk acc kp hacc => ?_)
  have ea : acc.toList = (keysOf xs).map fun p => Value.ref p.1 := by
    have hl : acc.toList.length = xs.length := by rw [Array.length_toList, hacc.1]; exact l1
    apply List.ext_getElem?
    intro j
    unfold keysOf
    rw [List.getElem?_map, List.getElem?_map]
    cases hj : acc.toList[j]? with
    | none =>
      have h1 := List.getElem?_eq_none_iff.mp hj
      rw [List.getElem?_eq_none (by omega)]
      all_goals rfl
    | some v =>
      obtain ⟨en, hen, hv⟩ := hacc.2 j v (by rw [← Array.getElem?_toList]; exact hj)
      have qe : es.toList[j]? = (xs.map (entryOfKey (Z.dkind X.prog X.w)))[j]? := by rw [he]
      rw [Array.getElem?_toList, hen, List.getElem?_map] at qe
      cases hb : xs[j]? with
      | none => rw [hb] at qe; exact nomatch (show some en = none from qe)
      | some b =>
        rw [hb] at qe
        have e2 : en = entryOfKey (Z.dkind X.prog X.w) b := Option.some.inj qe
        rw [hv, e2]
        all_goals rfl
  have I1 : Inv X pins σ H { s with heap := h', toks := tk } := I.kept kp
  have lL : (keysOf xs).length ≤ sizeLine := by simp [keysOf]; omega
  rw [ea]
  refine wpAny_bind (wpAny_newList ?_ (by rw [List.length_map]; omega))
  have at0 : (h'.push (seqObj "list" ((keysOf xs).map fun p => Value.ref p.1).toArray 0)).get? h'.objs.size = some (seqObj "list" ((keysOf xs).map fun p => Value.ref p.1).toArray 0) := Heap.get?_push_size _ rfl
  have k2 : ∀ p ∈ keysOf xs, Z.KH (h'.push (seqObj "list" ((keysOf xs).map fun p => Value.ref p.1).toArray 0)) p.1 p.2 := fun p hp => (kk p hp).old fun b u e => Heap.get?_push_of_some _ (kp b u e)
  refine wpAny_bind (wpAny_holding (Z.listSortX (s := { s with heap := h'.push (seqObj "list" ((keysOf xs).map fun p => Value.ref p.1).toArray 0), toks := tk }) (R := fun u (p : Z.SEn) => u = .ref p.1) (enc := fun p : Z.SEn => p.2) at0 (Z.each_self (keysOf xs) fun _ _ => rfl)
    (Z.each_self (keysOf xs) fun p hp => ⟨[], Z.reads_key _ _ (k2 p hp).1, by simp⟩) (by rw [eL]; exact al) (by rw [eL]; exact so) lL (fun p hp => by
      obtain ⟨e, he, rfl⟩ := List.mem_map.mp hp
      have := hu e he
      show X.A.units + 1 + 1 + e.1.depth < cLine
      omega) fun out ho eo => ?_))
  have e1 := Z.each_ref eo
  subst e1
  obtain ⟨c, hcc⟩ := PyProof.Rows.sortedHeap_at (vs := (keysOf xs).map fun p => Value.ref p.1) (out := (((keysOf xs).mergeSort (PySem.W.dataLe false fun p : Z.SEn => p.2)).map fun p => Value.ref p.1).toArray) at0
  have pN : ((keysOf xs).mergeSort (PySem.W.dataLe false fun p : Z.SEn => p.2)).Perm (keysOf xs) := List.mergeSort_perm _ _
  have srtN : ((keysOf xs).mergeSort (PySem.W.dataLe false fun p : Z.SEn => p.2)).map (·.2) = Z.srt (xs.map (·.1)) := by
    have h3 := List.map_mergeSort (r := PySem.W.dataLe false fun p : Z.SEn => p.2) (s := PySem.W.dataLe false id) (f := fun p : Z.SEn => p.2) (l := keysOf xs) (fun _ _ _ _ => rfl)
    rw [h3, eL]
    rfl
  generalize (keysOf xs).mergeSort (PySem.W.dataLe false fun p : Z.SEn => p.2) = N at pN srtN hcc ⊢
  have lN : (N.map fun q => V.ref q.1).length ≤ sizeLine := by rw [List.length_map, pN.length_eq]; exact lL
  refine wpAny_pure ⟨_, rfl, .ref h'.objs.size, upd H h'.objs.size (.lst (N.map fun q => V.ref q.1)), I1.laid (t' := tk) (fun b u e => ?_) (Nat.le_refl _) (show ObjOk X.prog X.w _ _ _ (.lst (N.map fun q => V.ref q.1)) from ⟨lN, _, c, Z.vals_fore N, hcc⟩), rfl, q _ N pN srtN (I1.hok.fresh (Nat.le_refl _))⟩
  have hb : b < h'.objs.size := Heap.lt_size e
  rw [PyProof.Rows.sortedHeap_old (Nat.ne_of_lt hb) (by rw [size_push']; exact Nat.lt_succ_of_lt hb)]
  exact Heap.get?_push_of_some _ e
end

theorem DR.keys {B : Ba} {w : W} : ∀ {xs : List DEn} {kvs : List (PyData × D)}, DR B w xs kvs → xs.map (·.1) = kvs.map (·.1)
  | [], [], _ => rfl
  | e :: xs, kv :: kvs, ⟨h1, h2⟩ => by rw [List.map_cons, List.map_cons, h1.1, DR.keys h2]
  | [], _ :: _, h => h.elim
  | _ :: _, [], h => h.elim
theorem DR.kyF {B : Ba} {w : W} : ∀ {xs : List DEn} {kvs : List (PyData × D)}, DR B w xs kvs → ∀ x ∈ xs, KyD B.K w.F x.2.1 x.1
  | [], [], _, x, h => by cases h
  | e :: xs, kv :: kvs, ⟨h1, h2⟩, x, h => by
    rcases List.mem_cons.mp h with rfl | h
    · exact h1.2.1
    · exact DR.kyF h2 x h
  | [], _ :: _, h, _, _ => h.elim
  | _ :: _, [], h, _, _ => h.elim
section
variable {X : Cx}
open Classical in
noncomputable def bSortD (own : Bool) : FA := fun s ds => match ds with
  | [.r j] => match s[j]? with
    | some (.dic kvs) => if SrtOk (kvs.map (·.1)) then mkL own s ((Z.srt (kvs.map (·.1))).map .d) else none
    | _ => none
  | _ => none
theorem b_sortD (hc : X.calm = true) (hu : X.A.units + 64 < cLine) {own : Bool} : CalS X (.builtin "sorted") (bSortD own) := fun s ds z s' e => by
  unfold bSortD at e
  split at e
  · rename_i j
    split at e
    · rename_i kvs e1
      split at e
      · rename_i hs
        refine ⟨_, cr_sortDict hc, fun us w H Q G hv k => ?_⟩
        obtain ⟨v, rfl, a, hr, rfl⟩ := vrs1 hv
        obtain ⟨_, xs, h1, h2⟩ := G.ce j _ a e1 hr
        have ek := h2.keys
        have kF := h2.kyF
        refine ⟨a, xs, rfl, h1, h2.ky G.ext, by rw [ek]; exact hs.al, by rw [ek]; exact hs.so, fun x hx => Z.roomS hu (hs.dp x.1 (by rw [← ek]; exact List.mem_map_of_mem hx)), fun p M pM eM hp => ?_⟩
        have hd : DpAll X.K w.F (M.map fun p => V.ref p.1) (M.map (·.2)) := Z.dps_of_ks (ks := M) fun p m => by
          obtain ⟨x, hx, rfl⟩ := List.mem_map.mp (pM.mem_iff.mp m)
          exact (kF x hx).1
        rw [eM, ek] at hd
        obtain ⟨w', l', g', v'⟩ := mkL_ok e G hp (VRs.data.mpr hd)
        exact k _ w' _ l' g' v'
      · cases e
    · cases e
  · cases e
end
end N

namespace N
open PySem L2 PyProof.Rows
open Z (Ext dpUp dpsUp dpsLen dpsGet DxO KyD DEn Cl cut offv bl Dfn)

section
variable {X : Cx} {pins : List (Addr × Obj)} {σ : L2.St} {H : Hp} {s : Shared}
theorem srtOk_ints {xs : List PyData} {ns : List Int} (h : intsOf (xs.map .d) = some ns) : SrtOk xs ∧ ∀ d ∈ xs, ∃ i, d = .int i := by
  have e := ints_eq h
  have e2 : xs = ns.map PyData.int := by
    have h1 : data (xs.map .d) = data (ns.map fun i => D.d (.int i)) := by rw [e]
    rw [data_map] at h1
    have h2 : data (ns.map fun i => D.d (.int i)) = some (ns.map PyData.int) := by
      rw [show (ns.map fun i => D.d (.int i)) = (ns.map PyData.int).map D.d by rw [List.map_map]; rfl, data_map]
    rw [h2] at h1
    exact Option.some.inj h1
  subst e2
  refine ⟨⟨PySem.W.AllAlike.of fun a b => by simp [PySem.W.alike], .inl (PySem.W.Sortable.others fun b => ⟨by simp, by simp⟩), fun d hd => ?_⟩, fun d hd => ?_⟩
  · obtain ⟨a, _, rfl⟩ := List.mem_map.mp hd
    simp [PyData.depth]
  · obtain ⟨a, _, rfl⟩ := List.mem_map.mp hd
    exact ⟨a, rfl⟩
end
end N

namespace N
open PySem L2 PyProof.Rows

theorem safe_self (s : Sto) : Safe s s := ⟨Nat.le_refl _, fun j c _ h => .inl h⟩
theorem safe_app (s g : Sto) : Safe s (s ++ g) := ⟨by simp, fun j c hj h => .inl (by rwa [List.getElem?_append_left hj] at h)⟩
@[simp] theorem trim_self (s : Sto) : trim s s = s := by unfold trim; rw [if_pos (safe_self s), List.take_length]
@[simp] theorem trim_app (s g : Sto) : trim s (s ++ g) = s := by unfold trim; rw [if_pos (safe_app s g), List.take_left]
@[simp] theorem trimE_self (s : Sto) (e : Lo) : trimE s e s = s := by unfold trimE; split <;> simp
@[simp] theorem ret_d (own : Bool) (s : Sto) (x : PyData) (s' : Sto) : ret own s (.d x) s' = some (.d x, trim s s') := rfl
theorem ret_lst (s : Sto) (xs : List PyData) : ret false s (.r s.length) (s ++ [.lst (xs.map .d)]) = some (.d (.list xs), s) := by
  unfold ret
  simp only [Nat.lt_irrefl, if_false, Bool.false_eq_true]
  rw [List.getElem?_append_right (Nat.le_refl _), Nat.sub_self]
  simp only [List.getElem?_cons_zero, data_map]
  congr 2
  rw [List.set_append_right _ _ (Nat.le_refl _)]
  exact trim_app _ _
theorem ck_none (s : Sto) : chkOk none s := trivial
theorem lcL_pure {k : Nat} {ck : Option (Nat × List D)} {g : MG} {mt : MT} {el : ME} {e0 : Lo} {s : Sto} {α : Type} {enc : α → D} (f : α → D) (p : α → Bool) (hk : k = s.length) (hck : ∀ acc, chkOk ck (s ++ [.lst acc])) : ∀ (l : List α) (acc : List D), (∀ x ∈ l, ∀ acc, ∃ e1, g (enc x) e0 = some e1 ∧ mt e1 (s ++ [.lst acc]) = some (p x, s ++ [.lst acc]) ∧ (p x = true → el e1 (s ++ [.lst acc]) = some (f x, s ++ [.lst acc]))) → acc.length + l.length ≤ lim →
    lcL k ck g mt el e0 (l.map enc) (s ++ [.lst acc]) = some (s ++ [.lst (acc ++ (l.filter p).map f)])
  | [], acc, _, _ => by
    rw [List.map_nil]
    unfold lcL
    rw [if_pos (hck acc)]
    simp
  | x :: l, acc, h, hl => by
    obtain ⟨e1, h1, h2, h3⟩ := h x List.mem_cons_self acc
    rw [List.map_cons]
    unfold lcL
    rw [if_pos (hck acc)]
    simp only [h1, h2]
    rw [List.length_cons] at hl
    cases hp : p x with
    | false =>
      simp only []
      rw [lcL_pure f p hk hck l acc (fun y hy => h y (List.mem_cons_of_mem _ hy)) (by omega), List.filter_cons_of_neg (by simp [hp])]
    | true =>
      simp only [h3 hp]
      subst hk
      rw [List.getElem?_append_right (Nat.le_refl _), Nat.sub_self]
      simp only [List.getElem?_cons_zero]
      rw [if_pos (by omega), List.set_append_right _ _ (Nat.le_refl _), Nat.sub_self]
      simp only [List.set_cons_zero]
      rw [lcL_pure f p rfl hck l _ (fun y hy => h y (List.mem_cons_of_mem _ hy)) (by rw [List.length_append]; simp; omega), List.filter_cons_of_pos hp]
      simp
theorem lcFin_d (s : Sto) (xs : List PyData) : lcFin false s (s ++ [.lst (xs.map .d)]) = some (.d (.list xs), s) := by
  unfold lcFin
  rw [List.getElem?_append_right (Nat.le_refl _), Nat.sub_self]
  simp only [List.getElem?_cons_zero, data_map, Bool.false_eq_true, if_false]
  congr 2
  rw [List.set_append_right _ _ (Nat.le_refl _)]
  exact trim_app _ _
theorem eLc_d {vs : List Nat} {mi : MI} {g : MG} {mt : MT} {el : ME} {e : Lo} {s s1 : Sto} {α : Type} {enc : α → D} {l : List α} (f : α → PyData) (p : α → Bool) (hi : mi e s = some (l.map enc, none, s1)) (h : ∀ x ∈ l, ∀ acc, ∃ e1, g (enc x) (wipeN e vs) = some e1 ∧ mt e1 (s1 ++ [.lst acc]) = some (p x, s1 ++ [.lst acc]) ∧ (p x = true → el e1 (s1 ++ [.lst acc]) = some (.d (f x), s1 ++ [.lst acc]))) (hl : l.length ≤ lim) :
    eLc false vs mi g mt el e s = some (.d (.list ((l.filter p).map f)), s1) := by
  unfold eLc
  simp only [hi]
  rw [lcL_pure (fun x => .d (f x)) p rfl (fun _ => ck_none _) l [] h (by simpa using hl)]
  simp only [List.nil_append]
  have := lcFin_d s1 ((l.filter p).map f)
  rw [List.map_map] at this
  exact this
/-- .. whose turns change the store below: what is kept -/
theorem lcL_inv {k : Nat} {g : MG} {mt : MT} {el : ME} {e0 : Lo} {α : Type} {enc : α → D} (Iv : Nat → List D → Sto → Prop) (hk : ∀ i acc s, Iv i acc s → s.length = k) : ∀ (l : List α) (n : Nat) (acc : List D) (s : Sto), (∀ i x acc s, l[i]? = some x → Iv (n + i) acc s → ∃ e1, g (enc x) e0 = some e1 ∧ ((∃ s', mt e1 (s ++ [.lst acc]) = some (false, s' ++ [.lst acc]) ∧ Iv (n + i + 1) acc s') ∨
      ∃ s1 y s', mt e1 (s ++ [.lst acc]) = some (true, s1) ∧ el e1 s1 = some (y, s' ++ [.lst acc]) ∧ Iv (n + i + 1) (acc ++ [y]) s')) → acc.length + l.length ≤ lim → Iv n acc s →
    ∃ acc' s', lcL k none g mt el e0 (l.map enc) (s ++ [.lst acc]) = some (s' ++ [.lst acc']) ∧ Iv (n + l.length) acc' s'
  | [], n, acc, s, h, hl, h0 => by
    rw [List.map_nil]
    unfold lcL
    rw [if_pos (ck_none _)]
    exact ⟨acc, s, rfl, h0⟩
  | x :: l, n, acc, s, h, hl, h0 => by
    obtain ⟨e1, h1, h2⟩ := h 0 x acc s rfl h0
    rw [List.map_cons]
    unfold lcL
    rw [if_pos (ck_none _)]
    simp only [h1]
    rw [List.length_cons] at hl
    have en : n + 1 + l.length = n + (x :: l).length := by simp; omega
    have hh : ∀ i y acc s, l[i]? = some y → Iv (n + 1 + i) acc s → _ := fun i y acc s hy hi => by
      have := h (i + 1) y acc s (by simpa using hy) (by rw [show n + (i + 1) = n + 1 + i by omega]; exact hi)
      rw [show n + (i + 1) = n + 1 + i by omega] at this
      exact this
    rcases h2 with ⟨s', h3, h4⟩ | ⟨s1, y, s', h3, h4, h5⟩
    · simp only [h3]
      obtain ⟨acc', s2, h6, h7⟩ := lcL_inv Iv hk l (n + 1) acc s' hh (by omega) h4
      exact ⟨acc', s2, h6, by rw [← en]; exact h7⟩
    · simp only [h3, h4]
      have hk' := hk _ _ _ h5
      rw [List.getElem?_append_right (by omega), show k - s'.length = 0 by omega]
      simp only [List.getElem?_cons_zero]
      rw [if_pos (by omega), List.set_append_right _ _ (by omega), show k - s'.length = 0 by omega]
      simp only [List.set_cons_zero]
      obtain ⟨acc', s2, h6, h7⟩ := lcL_inv Iv hk l (n + 1) (acc ++ [y]) s' hh (by rw [List.length_append]; simp; omega) h5
      exact ⟨acc', s2, h6, by rw [← en]; exact h7⟩
end N

namespace N
open PySem L2 PyProof.Rows
open Z (Ext dpUp dpsUp dpsLen dpsGet DxO KyD DEn)
section
variable {X : Cx} {a b : Expr} {ms : MA} {pos : Pos}
/-- x, y = a, b, where x or y is read by an inner part too: the pair is made, then taken apart -/
theorem ns_parC2 {x y : Str} {px py pt pt2 : Pos} {kt k2 : Nat} (i j : Nat) (ha : NA X [a, b] ms) (hN : X.N.Nodup) (hc : X.calm = true := by rfl) (hx : X.N[i]? = some x := by rfl) (hy : X.N[j]? = some y := by rfl)
    (hlx : Loc X.env.scope x := by first | exact .inl rfl | exact .inr rfl) (hly : Loc X.env.scope y := by first | exact .inl rfl | exact .inr rfl)
    (hfx : X.fn x = true ∨ X.env.scope.names.lookup x = some .local := by first | exact .inl rfl | exact .inr rfl) (hfy : X.fn y = true ∨ X.env.scope.names.lookup y = some .local := by first | exact .inl rfl | exact .inr rfl)
    (hs : swapsWithSole [.Tuple [.Name x px, .Name y py] kt pt] (.Tuple [a, b] k2 pt2) pos.line X.env = pure false := by rfl) (hw : swappedStores [.Tuple [.Name x px, .Name y py] kt pt] (.Tuple [a, b] k2 pt2) X.env = pure none := by rfl) :
    NS X (.Assign [.Tuple [.Name x px, .Name y py] kt pt] (.Tuple [a, b] k2 pt2) pos) (sPar [i, j] ms) := fun e s fl e' s' bb hm hb => by
  unfold sPar at hm
  split at hm
  · rename_i ds s1 e1
    split at hm
    · rename_i hl
      cases hm
      match ds, hl with
      | [d1, d2], _ =>
        refine Z.PS.imp (ps_asg (pe_tup (ha _ _ _ _ e1)) (pg_tup hc (pgs_cons (pg_name hN hx hlx hfx) (pgs_cons (pg_name hN hy hly hfy) pgs_nil)) (n := 2)) hs hw) fun Dn σ H ⟨w, g, l, k⟩ => ⟨w, g, l, fun us w1 H1 l1 g1 v1 => ?_⟩
        obtain ⟨u, v, rfl, h1, h2⟩ := vrs2 v1
        refine ⟨(by decide : 2 ≤ sizeLine), fun q hq => ⟨q, [u, v], rfl, .of upd_same, rfl, u, [v], rfl, v, [], rfl, rfl, ?_⟩⟩
        have l2 := g1.frz_le (o := .tup [u, v]) hq
        have g2 := g1.frz (o := .tup [u, v]) hq
        exact k _ _ _ ((l1.trans l2).cut bb) g2 (((l.up (l1.trans l2)).put i (h1.up l2)).put j (h2.up l2))
    · cases hm
  · cases hm
end
end N



namespace N
open PySem L2 PyProof.Rows

def R {α : Type} (o : Option (α × Sto)) (Q : α → Sto → Prop) : Prop := ∃ x s, o = some (x, s) ∧ Q x s
def Rc {α : Type} (o : Option α) (Q : α → Prop) : Prop := ∃ x, o = some x ∧ Q x
def Rs (o : Option (Fl × Lo × Sto)) (Q : Fl → Lo → Sto → Prop) : Prop := ∃ fl e s, o = some (fl, e, s) ∧ Q fl e s
def Ri (o : Option (List D × Option (Nat × List D) × Sto)) (Q : List D → Option (Nat × List D) → Sto → Prop) : Prop := ∃ l ck s, o = some (l, ck, s) ∧ Q l ck s
section
variable {α : Type}
@[simp] theorem R_some {x : α} {s : Sto} {Q : α → Sto → Prop} : R (some (x, s)) Q ↔ Q x s := ⟨fun ⟨_, _, h, q⟩ => by cases h; exact q, fun q => ⟨_, _, rfl, q⟩⟩
@[simp] theorem R_none {Q : α → Sto → Prop} : R none Q ↔ False := ⟨fun ⟨_, _, h, _⟩ => (by cases h), False.elim⟩
@[simp] theorem Rc_some {x : α} {Q : α → Prop} : Rc (some x) Q ↔ Q x := ⟨fun ⟨_, h, q⟩ => by cases h; exact q, fun q => ⟨_, rfl, q⟩⟩
@[simp] theorem Rc_none {Q : α → Prop} : Rc none Q ↔ False := ⟨fun ⟨_, h, _⟩ => (by cases h), False.elim⟩
@[simp] theorem Rs_some {fl : Fl} {e : Lo} {s : Sto} {Q : Fl → Lo → Sto → Prop} : Rs (some (fl, e, s)) Q ↔ Q fl e s := ⟨fun ⟨_, _, _, h, q⟩ => by cases h; exact q, fun q => ⟨_, _, _, rfl, q⟩⟩
@[simp] theorem Rs_none {Q : Fl → Lo → Sto → Prop} : Rs none Q ↔ False := ⟨fun ⟨_, _, _, h, _⟩ => (by cases h), False.elim⟩
@[simp] theorem Ri_some {l : List D} {ck : Option (Nat × List D)} {s : Sto} {Q : List D → Option (Nat × List D) → Sto → Prop} : Ri (some (l, ck, s)) Q ↔ Q l ck s := ⟨fun ⟨_, _, _, h, q⟩ => by cases h; exact q, fun q => ⟨_, _, _, rfl, q⟩⟩
@[simp] theorem Ri_none {Q : List D → Option (Nat × List D) → Sto → Prop} : Ri none Q ↔ False := ⟨fun ⟨_, _, _, h, _⟩ => (by cases h), False.elim⟩
theorem R.imp {o : Option (α × Sto)} {Q Q' : α → Sto → Prop} (h : R o Q) (k : ∀ x s, Q x s → Q' x s) : R o Q' := by
  obtain ⟨x, s, e, q⟩ := h
  exact ⟨x, s, e, k _ _ q⟩
theorem Rc.imp {o : Option α} {Q Q' : α → Prop} (h : Rc o Q) (k : ∀ x, Q x → Q' x) : Rc o Q' := by
  obtain ⟨x, e, q⟩ := h
  exact ⟨x, e, k _ q⟩
theorem Rs.imp {o : Option (Fl × Lo × Sto)} {Q Q' : Fl → Lo → Sto → Prop} (h : Rs o Q) (k : ∀ fl e s, Q fl e s → Q' fl e s) : Rs o Q' := by
  obtain ⟨x, e, s, h, q⟩ := h
  exact ⟨x, e, s, h, k _ _ _ q⟩
theorem R.of {o : Option (α × Sto)} {x : α} {s : Sto} {Q : α → Sto → Prop} (h : o = some (x, s)) (q : Q x s) : R o Q := ⟨x, s, h, q⟩
theorem R.eq {o : Option (α × Sto)} {x : α} {s : Sto} (h : R o fun y s' => y = x ∧ s' = s) : o = some (x, s) := by
  obtain ⟨_, _, h, rfl, rfl⟩ := h
  exact h
theorem Rs.of {o : Option (Fl × Lo × Sto)} {fl : Fl} {e : Lo} {s : Sto} {Q : Fl → Lo → Sto → Prop} (h : o = some (fl, e, s)) (q : Q fl e s) : Rs o Q := ⟨_, _, _, h, q⟩
end
section
variable {e : Lo} {s : Sto} {Q : D → Sto → Prop} {Qt : Bool → Sto → Prop} {Qa : List D → Sto → Prop} {Qs : Fl → Lo → Sto → Prop} {Qo : Option Int → Sto → Prop} {Qi : List D → Option (Nat × List D) → Sto → Prop}
@[simp] theorem R_C (x : PyData) : R (eC x e s) Q ↔ Q (.d x) s := R_some
@[simp] theorem R_Var (i : Nat) : R (eVar i e s) Q ↔ match e[i]? with
  | some (some d) => Q d s
  | _ => False := by
  unfold eVar
  rcases e[i]? with _ | _ | d <;> simp
@[simp] theorem R_nil : R (aNil e s) Qa ↔ Qa [] s := R_some
@[simp] theorem R_cons (m : ME) (ms : MA) : R (aCons m ms e s) Qa ↔ R (m e s) fun d s1 => R (ms e s1) fun ds s2 => Qa (d :: ds) s2 := by
  unfold aCons
  rcases m e s with _ | ⟨d, s1⟩
  · simp
  · rcases h : ms e s1 with _ | ⟨ds, s2⟩ <;> simp [h]
@[simp] theorem R_bin (f : FB) (ma mb : ME) : R (eBin f ma mb e s) Q ↔ R (ma e s) fun x s1 => R (mb e s1) fun y s2 => R (f s2 x y) Q := by
  unfold eBin
  rcases ma e s with _ | ⟨d, s1⟩
  · simp
  · rcases h : mb e s1 with _ | ⟨ds, s2⟩ <;> simp [h]
@[simp] theorem R_cmp (f : FC) (ma mb : ME) : R (eCmp f ma mb e s) Q ↔ R (ma e s) fun x s1 => R (mb e s1) fun y s2 => Rc (f s2 x y) fun k => Q (.d (.bool k)) s2 := by
  unfold eCmp eBin
  rcases ma e s with _ | ⟨d, s1⟩
  · simp
  · rcases h : mb e s1 with _ | ⟨ds, s2⟩
    · simp [h]
    · rcases h2 : f s2 d ds with _ | k <;> simp [h, h2]
@[simp] theorem R_tcmp (f : FC) (ma mb : ME) : R (tCmp f ma mb e s) Qt ↔ R (ma e s) fun x s1 => R (mb e s1) fun y s2 => Rc (f s2 x y) fun k => Qt k s2 := by
  unfold tCmp
  rcases ma e s with _ | ⟨d, s1⟩
  · simp
  · rcases h : mb e s1 with _ | ⟨ds, s2⟩
    · simp [h]
    · rcases h2 : f s2 d ds with _ | k <;> simp [h, h2]
@[simp] theorem R_call (f : FA) (ms : MA) : R (eCall f ms e s) Q ↔ R (ms e s) fun ds s1 => R (f s1 ds) Q := by
  unfold eCall
  rcases ms e s with _ | ⟨d, s1⟩ <;> simp
@[simp] theorem R_ite (mt : MT) (ma mb : ME) : R (eIte mt ma mb e s) Q ↔ R (mt e s) fun k s1 => (k = true → R (ma e s1) Q) ∧ (k = false → R (mb e s1) Q) := by
  unfold eIte
  rcases mt e s with _ | ⟨_ | _, s1⟩ <;> simp
@[simp] theorem R_tVal (m : ME) : R (tVal m e s) Qt ↔ R (m e s) fun d s1 => Rc (truD s1 d) fun k => Qt k s1 := by
  unfold tVal
  rcases m e s with _ | ⟨d, s1⟩
  · simp
  · rcases h : truD s1 d with _ | k <;> simp [h]
@[simp] theorem R_tTrue : R (tTrue e s) Qt ↔ Qt true s := R_some
@[simp] theorem R_tNot (mt : MT) : R (tNot mt e s) Qt ↔ R (mt e s) fun k s1 => Qt (!k) s1 := by
  unfold tNot
  rcases mt e s with _ | ⟨k, s1⟩ <;> simp
@[simp] theorem R_tAnd (mt mu : MT) : R (tAnd mt mu e s) Qt ↔ R (mt e s) fun k s1 => (k = true → R (mu e s1) Qt) ∧ (k = false → Qt false s1) := by
  unfold tAnd
  rcases mt e s with _ | ⟨_ | _, s1⟩ <;> simp
@[simp] theorem R_tOr (mt mu : MT) : R (tOr mt mu e s) Qt ↔ R (mt e s) fun k s1 => (k = false → R (mu e s1) Qt) ∧ (k = true → Qt true s1) := by
  unfold tOr
  rcases mt e s with _ | ⟨_ | _, s1⟩ <;> simp
@[simp] theorem R_eAnd (ma mb : ME) : R (eAnd ma mb e s) Q ↔ R (ma e s) fun d s1 => Rc (truD s1 d) fun k => (k = true → R (mb e s1) Q) ∧ (k = false → Q d s1) := by
  unfold eAnd
  rcases ma e s with _ | ⟨d, s1⟩
  · simp
  · rcases h : truD s1 d with _ | _ | _ <;> simp [h]
@[simp] theorem R_eOr (ma mb : ME) : R (eOr ma mb e s) Q ↔ R (ma e s) fun d s1 => Rc (truD s1 d) fun k => (k = false → R (mb e s1) Q) ∧ (k = true → Q d s1) := by
  unfold eOr
  rcases ma e s with _ | ⟨d, s1⟩
  · simp
  · rcases h : truD s1 d with _ | _ | _ <;> simp [h]
@[simp] theorem R_eNot (m : ME) : R (eNot m e s) Q ↔ R (m e s) fun d s1 => Rc (truD s1 d) fun k => Q (.d (.bool (!k))) s1 := by
  unfold eNot
  rcases m e s with _ | ⟨d, s1⟩
  · simp
  · rcases h : truD s1 d with _ | k <;> simp [h]
@[simp] theorem R_neg (m : ME) : R (eNeg m e s) Q ↔ R (m e s) fun d s1 => match d with
  | .d (.int i) => Q (.d (.int (-i))) s1
  | _ => False := by
  unfold eNeg
  rcases m e s with _ | ⟨d, s1⟩
  · simp
  · rcases d with x | j
    · cases x <;> simp
    · simp
@[simp] theorem R_tup (ms : MA) : R (eTup ms e s) Q ↔ R (ms e s) fun ds s1 => Rc (data ds) fun xs => xs.length ≤ lim ∧ Q (.d (.tuple xs)) s1 := by
  unfold eTup
  rcases ms e s with _ | ⟨ds, s1⟩
  · simp
  · rcases h : data ds with _ | xs
    · simp [h]
    · by_cases h2 : xs.length ≤ lim <;> simp [h, h2]
@[simp] theorem R_lst (own : Bool) (ms : MA) : R (eLst own ms e s) Q ↔ R (ms e s) fun ds s1 => ds.length ≤ lim ∧ R (mkL own s1 ds) Q := by
  unfold eLst
  rcases ms e s with _ | ⟨ds, s1⟩
  · simp
  · by_cases h : ds.length ≤ lim <;> simp [h]
@[simp] theorem R_mkT (ds : List D) : R (mkL true s ds) Q ↔ Q (.r s.length) (s ++ [.lst ds]) := R_some
@[simp] theorem R_mkF (ds : List D) : R (mkL false s ds) Q ↔ Rc (data ds) fun xs => Q (.d (.list xs)) s := by
  unfold mkL
  rcases h : data ds with _ | xs <;> simp [h]
@[simp] theorem R_dic : R (eDic e s) Q ↔ Q (.r s.length) (s ++ [.dic []]) := R_some
@[simp] theorem R_dicK : R (eDicK e s) Q ↔ Q (.r s.length) (s ++ [.dk []]) := R_some
@[simp] theorem R_isi (t : TyT) (m : ME) : R (eIsi t m e s) Q ↔ R (m e s) fun d s1 => Rc (pd s1 d) fun x => Q (.d (.bool (t.of x))) s1 := by
  unfold eIsi
  rcases m e s with _ | ⟨d, s1⟩
  · simp
  · rcases h : pd s1 d with _ | x <;> simp [h]
@[simp] theorem R_oNone : R (oNone e s) Qo ↔ Qo none s := R_some
@[simp] theorem R_oSome (m : ME) : R (oSome m e s) Qo ↔ R (m e s) fun d s1 => match d with
  | .d (.int i) => Qo (some i) s1
  | _ => False := by
  unfold oSome
  rcases m e s with _ | ⟨d, s1⟩
  · simp
  · rcases d with x | j
    · cases x <;> simp [eC]
    · simp
theorem cutD_map {α β : Type} (f : α → β) (xs : List α) (lo hi : Option Int) : cutD (xs.map f) lo hi = (cutD xs lo hi).map f := by
  unfold cutD
  rw [List.length_map, List.map_take, List.map_drop]
theorem v_list {own : Bool} (xs : List PyData) : bList own s [.d (.list xs)] = mkL own s (xs.map .d) := rfl
@[simp] theorem R_sl {own : Bool} (ma : ME) (ml mu : MO) : R (eSl own ma ml mu e s) Q ↔ R (ma e s) fun a s1 => R (ml e s1) fun l s2 => R (mu e s2) fun u s3 => match a with
  | .d (.tuple xs) => Q (.d (.tuple (cutD xs l u))) s3
  | a => Rc (asL s3 a) fun ds => R (mkL own s3 (cutD ds l u)) Q := by
  unfold eSl
  rcases ma e s with _ | ⟨a, s1⟩
  · simp
  · rcases h1 : ml e s1 with _ | ⟨l, s2⟩
    · simp [h1]
    · rcases h2 : mu e s2 with _ | ⟨u, s3⟩
      · simp [h1, h2]
      · rcases a with x | j
        · cases x <;> simp [h1, h2, asL]
        · simp only [h1, h2, R_some]
          rcases h3 : asL s3 (.r j) with _ | ds <;> simp [h3]
/-- an item -/
def kIx (s : Sto) (a : D) (x : PyData) : Option D := match a with
  | .r j => match s[j]? with
    | some (.dk kvs) => match keyOf x with
      | some k => kGet kvs k
      | none => none
    | _ => none
  | _ => none
noncomputable def itF (s : Sto) (a b : D) : Option D := match gIxU s a b with
  | some d => some d
  | none => match b with
    | .d x => kIx s a x
    | _ => none
theorem R_it (ma mb : ME) : R (eIt ma mb e s) Q ↔ R (ma e s) fun a s1 => R (mb e s1) fun b s2 => Rc (itF s2 a b) fun d => Q d s2 := by
  unfold eIt eItem eIxK eBin
  rcases ma e s with _ | ⟨a, s1⟩
  · simp
  · rcases h : mb e s1 with _ | ⟨b, s2⟩
    · simp [h]
    · simp only [h, R_some, itF]
      rcases h2 : gIxU s2 a b with _ | d
      · simp only [R_some]
        rcases b with x | k
        · rcases a with y | j
          · simp [kIx]
          · simp only [kIx]
            rcases s2[j]? with _ | c
            · simp
            · rcases c with ds | kvs | kvs | kvs | ⟨rl, rh⟩ | td | ⟨iC, ifs⟩ | _
              · simp
              · simp
              · rcases keyOf x with _ | k
                · simp
                · rcases h3 : kGet kvs k with _ | d <;> simp [h3]
              · simp
              · simp
              · simp
              · simp
              · simp
        · rcases a with y | j <;> simp
      · simp
theorem itF_l {j : Nat} {ds : List D} {i : Int} {d : D} (h : s[j]? = some (.lst ds)) (h2 : atI ds i = some d) : itF s (.r j) (.d (.int i)) = some d := by
  unfold itF gIxU gIx asSeq asL
  simp only [h, h2]
theorem itF_t {xs : List PyData} {i : Int} {x : PyData} (h2 : atI xs i = some x) : itF s (.d (.tuple xs)) (.d (.int i)) = some (.d x) := by
  have : atI (xs.map D.d) i = some (.d x) := by
    unfold atI at h2 ⊢
    rw [List.length_map]
    rcases h : ixN xs.length i with _ | k
    · rw [h] at h2; cases h2
    · rw [h] at h2
      simp only [Option.bind_some] at h2 ⊢
      rw [List.getElem?_map, h2]
      rfl
  unfold itF gIxU gIx asSeq
  simp only [this]
theorem itF_tl {xs : List PyData} {i : Int} {x : PyData} (h2 : atI xs i = some x) : itF s (.d (.list xs)) (.d (.int i)) = some (.d x) := by
  have : atI (xs.map D.d) i = some (.d x) := by
    unfold atI at h2 ⊢
    rw [List.length_map]
    rcases h : ixN xs.length i with _ | k
    · rw [h] at h2; cases h2
    · rw [h] at h2
      simp only [Option.bind_some] at h2 ⊢
      rw [List.getElem?_map, h2]
      rfl
  unfold itF gIxU gIx asSeq asL
  simp only [this]
theorem itF_k {j : Nat} {kvs : List (PyData × D)} {xs : List PyData} {d : D} (h : s[j]? = some (.dic kvs)) (hk : isKey (.tuple xs) = true) (h2 : dGet kvs (.tuple xs) = some d) : itF s (.r j) (.d (.tuple xs)) = some d := by
  unfold itF gIxU
  simp only [h, hk, if_true, h2]
theorem atI_nat {α : Type} {xs : List α} {i : Nat} {x : α} (h : xs[i]? = some x) : atI xs (i : Int) = some x := by
  have hl : i < xs.length := by
    rcases Nat.lt_or_ge i xs.length with hi | hi
    · exact hi
    · rw [List.getElem?_eq_none hi] at h; cases h
  unfold atI ixN
  rw [if_pos (by omega), if_pos (by omega)]
  simpa using h
@[simp] theorem Rs_nil : Rs (sNil e s) Qs ↔ Qs .nx e s := Rs_some
@[simp] theorem Rs_pass : Rs (sPass e s) Qs ↔ Qs .nx e s := Rs_some
@[simp] theorem Rs_ct : Rs (sCt e s) Qs ↔ Qs .ct e s := Rs_some
@[simp] theorem Rs_bk : Rs (sBk e s) Qs ↔ Qs .bk e s := Rs_some
/-- what holds behind a statement -/
def thn (b : MS) (Q : Fl → Lo → Sto → Prop) : Fl → Lo → Sto → Prop := fun fl e s => match fl with
  | .nx => Rs (b e s) Q
  | fl => Q fl e s
@[simp] theorem thn_nx (b : MS) : thn b Qs .nx e s ↔ Rs (b e s) Qs := Iff.rfl
@[simp] theorem thn_rt (b : MS) (d : D) : thn b Qs (.rt d) e s ↔ Qs (.rt d) e s := Iff.rfl
@[simp] theorem thn_bk (b : MS) : thn b Qs .bk e s ↔ Qs .bk e s := Iff.rfl
@[simp] theorem thn_ct (b : MS) : thn b Qs .ct e s ↔ Qs .ct e s := Iff.rfl
@[simp] theorem Rs_seq (a b : MS) : Rs (sSeq a b e s) Qs ↔ Rs (a e s) (thn b Qs) := by
  unfold sSeq
  rcases a e s with _ | ⟨fl, e1, s1⟩
  · simp
  · cases fl <;> simp
@[simp] theorem Rs_set (i : Nat) (m : ME) : Rs (sSet i m e s) Qs ↔ R (m e s) fun d s1 => Qs .nx (e.set i (some d)) s1 := by
  unfold sSet
  rcases m e s with _ | ⟨d, s1⟩ <;> simp
@[simp] theorem Rs_ret (m : ME) : Rs (sRet m e s) Qs ↔ R (m e s) fun d s1 => Qs (.rt d) e s1 := by
  unfold sRet
  rcases m e s with _ | ⟨d, s1⟩ <;> simp
@[simp] theorem Rs_expr (m : ME) : Rs (sExpr m e s) Qs ↔ R (m e s) fun d s1 => Qs .nx e s1 := by
  unfold sExpr
  rcases m e s with _ | ⟨d, s1⟩ <;> simp
@[simp] theorem Rs_if (mt : MT) (M1 M2 : MS) : Rs (sIf mt M1 M2 e s) Qs ↔ R (mt e s) fun k s1 => (k = true → Rs (M1 e s1) Qs) ∧ (k = false → Rs (M2 e s1) Qs) := by
  unfold sIf
  rcases mt e s with _ | ⟨_ | _, s1⟩ <;> simp
@[simp] theorem Rs_aug (i : Nat) (f : FB) (m : ME) : Rs (sAug i f m e s) Qs ↔ match e[i]? with
  | some (some u) => R (m e s) fun d s1 => R (f s1 u d) fun z s2 => Qs .nx (e.set i (some z)) s2
  | _ => False := by
  unfold sAug
  rcases e[i]? with _ | _ | u
  · simp
  · simp
  · rcases m e s with _ | ⟨d, s1⟩
    · simp
    · rcases h : f s1 u d with _ | ⟨z, s2⟩ <;> simp [h]
@[simp] theorem Rs_asg (g : MG) (m : ME) : Rs (sAsg g m e s) Qs ↔ R (m e s) fun d s1 => Rc (g d e) fun e1 => Qs .nx e1 s1 := by
  unfold sAsg
  rcases m e s with _ | ⟨d, s1⟩
  · simp
  · rcases h : g d e with _ | e1 <;> simp [h]
@[simp] theorem Rs_par (is : List Nat) (ms : MA) : Rs (sPar is ms e s) Qs ↔ R (ms e s) fun ds s1 => ds.length = is.length ∧ Qs .nx ((is.zip ds).foldl (fun e z => e.set z.1 (some z.2)) e) s1 := by
  unfold sPar
  rcases ms e s with _ | ⟨ds, s1⟩
  · simp
  · by_cases h : ds.length = is.length <;> simp [h]
@[simp] theorem g_name (k : Nat) (d : D) : gName k d e = some (e.set k (some d)) := rfl
@[simp] theorem g_tup (gs : MGs) (xs : List PyData) : gTup gs (.d (.tuple xs)) e = gs xs e := rfl
@[simp] theorem gs_nil : gsNil [] e = some e := rfl
@[simp] theorem gs_cons (g : MG) (gs : MGs) (x : PyData) (xs : List PyData) : gsCons g gs (x :: xs) e = match g (.d x) e with
  | some e1 => gs xs e1
  | none => none := rfl
@[simp] theorem gs_len (n : Nat) (gs : MGs) (xs : List PyData) : gsLenOk n gs xs e = if xs.length = n then gs xs e else none := rfl
/-- an item put -/
noncomputable def putF (s : Sto) (o i d : D) : Option Sto := match o with
  | .r j => match s[j]? with
    | some (.lst ds) => match i with
      | .d (.int i) => match ixN ds.length i with
        | some k => some (s.set j (.lst (ds.set k d)))
        | none => none
      | _ => none
    | some (.dic kvs) => match i with
      | .d x => if isKey x ∧ kvs.length < lim then some (s.set j (.dic (dPut kvs x d))) else none
      | _ => none
    | some (.dk kvs) => match i with
      | .d x => match keyOf x with
        | some k => if kvs.length < lim then some (s.set j (.dk (kPut kvs k d))) else none
        | none => none
      | _ => none
    | _ => none
  | _ => none
theorem Rs_pu {ma mi mv : ME} : Rs (sPu ma mi mv e s) Qs ↔ R (mv e s) fun d s1 => R (ma e s1) fun o s2 => R (mi e s2) fun i s3 => Rc (putF s3 o i d) fun s4 => Qs .nx e s4 := by
  unfold sPu sPutU sPut sPutD sPutK putL putF
  rcases h1 : mv e s with _ | ⟨d, s1⟩
  · simp
  · rcases h2 : ma e s1 with _ | ⟨o, s2⟩
    · simp [h2]
    · rcases h3 : mi e s2 with _ | ⟨i, s3⟩
      · rcases o with x | j <;> simp [h2, h3]
      · rcases o with x | j
        · rcases i with x | j
          · cases x <;> simp [h2, h3]
          · simp [h2, h3]
        · rcases h4 : s3[j]? with _ | c
          · rcases i with x | j
            · cases x <;> simp [h2, h3, h4]
            · simp [h2, h3, h4]
          · rcases i with x | j
            · rcases c with ds | kvs | kvs | kvs | ⟨rl, rh⟩ | td | ⟨iC, ifs⟩ | _
              · cases x <;> simp [h2, h3, h4]
                rename_i i
                rcases h5 : ixN ds.length i with _ | k <;> simp [h5]
              · by_cases hk : isKey x ∧ kvs.length < lim
                · cases x <;> simp [h2, h3, h4, hk]
                · cases x <;> simp [h2, h3, h4, hk]
              · have hk : isKey x = true → keyOf x = none ∨ True := fun _ => .inr trivial
                rcases h5 : keyOf x with _ | k
                · cases x <;> simp [h2, h3, h4, h5]
                · by_cases hl : kvs.length < lim <;> cases x <;> simp [h2, h3, h4, h5, hl]
              · cases x <;> simp [h2, h3, h4]
              · cases x <;> simp [h2, h3, h4]
              · cases x <;> simp [h2, h3, h4]
              · cases x <;> simp [h2, h3, h4]
              · cases x <;> simp [h2, h3, h4]
            · rcases c with ds | kvs | kvs | kvs | ⟨rl, rh⟩ | td | ⟨iC, ifs⟩ | _ <;> simp [h2, h3, h4]
theorem putF_l {j k : Nat} {ds : List D} {i : Int} {d : D} (h : s[j]? = some (.lst ds)) (h2 : ixN ds.length i = some k) : putF s (.r j) (.d (.int i)) d = some (s.set j (.lst (ds.set k d))) := by
  unfold putF
  simp only [h, h2]
theorem putF_k {j : Nat} {kvs : List (PyData × D)} {xs : List PyData} {d : D} (h : s[j]? = some (.dic kvs)) (hk : isKey (.tuple xs) = true) (hl : kvs.length < lim) : putF s (.r j) (.d (.tuple xs)) d = some (s.set j (.dic (dPut kvs (.tuple xs) d))) := by
  unfold putF
  simp only [h]
  rw [if_pos ⟨hk, hl⟩]
theorem R_fn {np n : Nat} {own : Bool} {M : MS} {ds : List D} : R (fnR np n own M s ds) Q ↔ ds.length = np ∧ Rs (M (ds.map some ++ List.replicate (n - np) none) s) fun fl _ s' => match fl with
  | .rt d => R (ret own s d s') Q
  | .nx => R (ret own s (.d .none) s') Q
  | _ => False := by
  unfold fnR
  by_cases h : ds.length = np
  · rw [if_pos h]
    rcases M (ds.map some ++ List.replicate (n - np) none) s with _ | ⟨fl, e1, s1⟩
    · simp [h]
    · cases fl <;> simp [h]
  · rw [if_neg h]; simp [h]
@[simp] theorem v_sub (i j : Int) : oSub s (.d (.int i)) (.d (.int j)) = some (.d (.int (i - j)), s) := rfl
@[simp] theorem v_add (own : Bool) (i j : Int) : oAdd own s (.d (.int i)) (.d (.int j)) = some (.d (.int (i + j)), s) := rfl
@[simp] theorem v_iadd (i j : Int) : oIadd s (.d (.int i)) (.d (.int j)) = some (.d (.int (i + j)), s) := rfl
@[simp] theorem v_addT (own : Bool) (xs ys : List PyData) : R (oAdd own s (.d (.tuple xs)) (.d (.tuple ys))) Q ↔ xs.length + ys.length ≤ lim ∧ Q (.d (.tuple (xs ++ ys))) s := by
  unfold oAdd
  by_cases h : xs.length + ys.length ≤ lim <;> simp [h]
theorem v_mul {i j : Int} (h : ((-(2 ^ 64) < i ∧ i < 2 ^ 64) ∨ (-(2 ^ 64) < j ∧ j < 2 ^ 64)) ∨ i.natAbs.log2 + j.natAbs.log2 < 1000000) : oMul s (.d (.int i)) (.d (.int j)) = some (.d (.int (i * j)), s) := by
  unfold oMul
  simp only [if_pos h]
theorem v_mulL {i j : Int} (h : -(2 ^ 64) < i ∧ i < 2 ^ 64) : oMul s (.d (.int i)) (.d (.int j)) = some (.d (.int (i * j)), s) := v_mul (.inl (.inl h))
theorem v_mulR {i j : Int} (h : -(2 ^ 64) < j ∧ j < 2 ^ 64) : oMul s (.d (.int i)) (.d (.int j)) = some (.d (.int (i * j)), s) := v_mul (.inl (.inr h))
theorem log2_small {j : Int} (h' : j.natAbs < 2 ^ 256) : j.natAbs.log2 ≤ 256 := by
  by_cases h0 : j.natAbs = 0
  · rw [h0]; decide
  · have := (Nat.log2_lt (n := j.natAbs) (k := 256) h0).mpr h'
    omega
theorem v_div {i j : Int} (h : 0 < j) (h' : j < 2 ^ 256) : oDiv s (.d (.int i)) (.d (.int j)) = some (.d (.int (i / j)), s) := by
  have := log2_small (j := j) (by omega)
  unfold oDiv i2
  simp only [if_pos (show 0 < j ∧ j.natAbs.log2 < 9000 from ⟨h, by omega⟩)]
theorem v_mod {i j : Int} (h : 0 < j) : oMod s (.d (.int i)) (.d (.int j)) = some (.d (.int (i % j)), s) := by
  unfold oMod i2
  simp only [if_pos h]
@[simp] theorem v_xor (i j : Int) : oXor s (.d (.int i)) (.d (.int j)) = some (.d (.int (Builtin.bitXor i j)), s) := rfl
@[simp] theorem v_lt (i j : Int) : cLt s (.d (.int i)) (.d (.int j)) = some (decide (i < j)) := rfl
@[simp] theorem v_le (i j : Int) : cLe s (.d (.int i)) (.d (.int j)) = some (decide (i ≤ j)) := rfl
@[simp] theorem v_gt (i j : Int) : cGt s (.d (.int i)) (.d (.int j)) = some (decide (j < i)) := rfl
@[simp] theorem v_ge (i j : Int) : cGe s (.d (.int i)) (.d (.int j)) = some (decide (j ≤ i)) := rfl
@[simp] theorem v_eq (i j : Int) : cEq s (.d (.int i)) (.d (.int j)) = some (decide (i = j)) := rfl
@[simp] theorem v_ne (i j : Int) : cNe s (.d (.int i)) (.d (.int j)) = some (!decide (i = j)) := rfl
@[simp] theorem v_isN (a : D) : cIsN false s a (.d .none) = some (isNone a) := rfl
@[simp] theorem v_isNn (a : D) : cIsN true s a (.d .none) = some (!isNone a) := rfl
@[simp] theorem isNone_n : isNone (.d .none) = true := rfl
@[simp] theorem isNone_r (j : Nat) : isNone (.r j) = false := rfl
@[simp] theorem isNone_i (i : Int) : isNone (.d (.int i)) = false := rfl
@[simp] theorem isNone_t (xs : List PyData) : isNone (.d (.tuple xs)) = false := rfl
@[simp] theorem isNone_l (xs : List PyData) : isNone (.d (.list xs)) = false := rfl
@[simp] theorem isNone_b (b : Bool) : isNone (.d (.bool b)) = false := rfl
@[simp] theorem v_int (i : Int) : bInt s [.d (.int i)] = some (.d (.int i), s) := rfl
@[simp] theorem tru_b (b : Bool) : truD s (.d (.bool b)) = some b := rfl
@[simp] theorem tru_i (i : Int) : truD s (.d (.int i)) = some (i != 0) := rfl
@[simp] theorem tru_t (xs : List PyData) : truD s (.d (.tuple xs)) = some (!xs.isEmpty) := rfl
@[simp] theorem tru_l (xs : List PyData) : truD s (.d (.list xs)) = some (!xs.isEmpty) := rfl
@[simp] theorem tru_n : truD s (.d .none) = some false := rfl
@[simp] theorem pd_d (x : PyData) : pd s (.d x) = some x := rfl
@[simp] theorem data_nil : data [] = some [] := rfl
@[simp] theorem data_cons (x : PyData) (ds : List D) : data (.d x :: ds) = match data ds with
  | some xs => some (x :: xs)
  | none => none := rfl
@[simp] theorem len_t (xs : List PyData) : bLen s [.d (.tuple xs)] = some (.d (.int xs.length), s) := rfl
theorem len_l (xs : List PyData) : bLen s [.d (.list xs)] = some (.d (.int xs.length), s) := by
  unfold bLen f1 lenG asL
  simp
theorem len_r {j : Nat} {ds : List D} (h : s[j]? = some (.lst ds)) : bLen s [.r j] = some (.d (.int ds.length), s) := by
  unfold bLen f1 lenG asL
  simp [h]
@[simp] theorem v_tupT (xs : List PyData) : bTuple s [.d (.tuple xs)] = some (.d (.tuple xs), s) := rfl
theorem v_tupL (xs : List PyData) : bTuple s [.d (.list xs)] = some (.d (.tuple xs), s) := by
  unfold bTuple asL
  simp [data_map]
theorem v_tupR {j : Nat} {xs : List PyData} (h : s[j]? = some (.lst (xs.map .d))) : bTuple s [.r j] = some (.d (.tuple xs), s) := by
  unfold bTuple asL
  simp [h, data_map]
end
end N

namespace N
open PySem L2 PyProof.Rows

/-- what the store's cells refer to is in it -/
def Wf (s : Sto) : Prop := ∀ c ∈ s, c.below s.length
theorem below_mono {c : Cell} {n m : Nat} (h : c.below n) (l : n ≤ m) : c.below m := by
  cases c with
  | lst ds => exact fun j hj => Nat.lt_of_lt_of_le (h j hj) l
  | dic kvs => exact fun k j hj => Nat.lt_of_lt_of_le (h k j hj) l
  | dk kvs => exact fun k j hj => Nat.lt_of_lt_of_le (h k j hj) l
  | dfz kvs => exact fun k j hj => Nat.lt_of_lt_of_le (h k j hj) l
  | rng lo hi => trivial
  | tp ds => exact fun j hj => Nat.lt_of_lt_of_le (h j hj) l
  | ins C fs => exact fun k j hj => Nat.lt_of_lt_of_le (h k j hj) l
  | gone => trivial
theorem safe_wf {s0 s g : Sto} (hl : s.length = s0.length) (h : Wf s) : Safe s0 (s ++ g) := by
  refine ⟨by simp; omega, fun j c hj hc => ?_⟩
  rw [List.getElem?_append_left (by omega)] at hc
  exact .inr (by rw [← hl]; exact h c (List.mem_of_getElem? hc))
theorem trim_wf {s0 s g : Sto} (hl : s.length = s0.length) (h : Wf s) : trim s0 (s ++ g) = s := by
  unfold trim
  rw [if_pos (safe_wf hl h), ← hl, List.take_left]
theorem trim_wf' {s0 s : Sto} (hl : s.length = s0.length) (h : Wf s) : trim s0 s = s := by
  have := trim_wf (g := []) hl h
  rwa [List.append_nil] at this
theorem trimE_wf {s0 s g : Sto} {e : Lo} (hl : s.length = s0.length) (h : Wf s) (he : LoBelow s0.length e) : trimE s0 e (s ++ g) = s := by
  unfold trimE
  rw [if_pos he, trim_wf hl h]
section
variable {e : Lo} {s : Sto} {Q : D → Sto → Prop} {Qt : Bool → Sto → Prop} {Qa : List D → Sto → Prop} {Qs : Fl → Lo → Sto → Prop} {Qo : Option Int → Sto → Prop} {Qi : List D → Option (Nat × List D) → Sto → Prop}
@[simp] theorem Ri_rng1 (ms : MA) : Ri (iRng1 ms e s) Qi ↔ R (ms e s) fun ds s1 => match ds with
  | [.d (.int j)] => (-(2 ^ 62) ≤ j ∧ j < 2 ^ 62) ∧ Qi (rngD 0 j.toNat) none s1
  | _ => False := by
  unfold iRng1
  rcases ms e s with _ | ⟨ds, s1⟩
  · simp
  · simp only [R_some]
    split
    · rename_i j s2 h
      cases h
      by_cases h : -(2 ^ 62) ≤ j ∧ j < 2 ^ 62
      · simp only [if_pos h, Ri_some]
        exact ⟨fun q => ⟨h, q⟩, fun q => q.2⟩
      · simp only [if_neg h, Ri_none, false_iff]
        exact fun q => h q.1
    · rename_i h
      simp only [Ri_none, false_iff]
      split
      · rename_i j
        exact (h j _ rfl).elim
      · exact id
@[simp] theorem Ri_rng2 (ms : MA) : Ri (iRng2 ms e s) Qi ↔ R (ms e s) fun ds s1 => match ds with
  | [.d (.int i), .d (.int j)] => (-(2 ^ 62) ≤ i ∧ i < 2 ^ 62 ∧ -(2 ^ 62) ≤ j ∧ j < 2 ^ 62) ∧ Qi (rngD i (j - i).toNat) none s1
  | _ => False := by
  unfold iRng2
  rcases ms e s with _ | ⟨ds, s1⟩
  · simp
  · simp only [R_some]
    split
    · rename_i i j s2 h
      cases h
      by_cases h : -(2 ^ 62) ≤ i ∧ i < 2 ^ 62 ∧ -(2 ^ 62) ≤ j ∧ j < 2 ^ 62
      · simp only [if_pos h, Ri_some]
        exact ⟨fun q => ⟨h, q⟩, fun q => q.2⟩
      · simp only [if_neg h, Ri_none, false_iff]
        exact fun q => h q.1
    · rename_i h
      simp only [Ri_none, false_iff]
      split
      · rename_i i j
        exact (h i j _ rfl).elim
      · exact id
@[simp] theorem Ri_seq (m : ME) : Ri (iSeq m e s) Qi ↔ R (m e s) fun d s1 => match d with
  | .d (.tuple xs) => Qi (xs.map .d) none s1
  | .d (.list xs) => Qi (xs.map .d) none s1
  | .r j => match s1[j]? with
    | some (.lst ds) => Qi ds (some (j, ds)) s1
    | _ => False
  | _ => False := by
  unfold iSeq iLst
  rcases m e s with _ | ⟨d, s1⟩
  · simp
  · rcases d with x | j
    · cases x <;> simp
    · simp
      rcases s1[j]? with _ | c
      · simp
      · cases c <;> simp
theorem enumD_zip (xs : List PyData) : enumD xs = xs.zipIdx.map fun p => .d (.tuple [.int (p.2 : Nat), p.1]) := by
  have h : ∀ (xs : List PyData) (n : Nat), (List.range' n xs.length).zipWith (fun (i : Nat) x => D.d (.tuple [.int (i : Nat), x])) xs = (xs.zipIdx n).map fun p => .d (.tuple [.int (p.2 : Nat), p.1]) := by
    intro xs
    induction xs with
    | nil => intro n; rfl
    | cons x xs ih =>
      intro n
      rw [List.length_cons, List.range'_succ, List.zipWith_cons_cons, ih, List.zipIdx_cons, List.map_cons]
  unfold enumD
  rw [List.range_eq_range']
  exact h xs 0
@[simp] theorem Ri_enumT (m : ME) : Ri (iEnum (aCons m aNil) e s) Qi ↔ R (m e s) fun d s1 => match d with
  | .d (.tuple xs) => Qi (enumD xs) none s1
  | .d (.list xs) => Qi (enumD xs) none s1
  | d => Ri (iEnum (fun _ _ => some ([d], s1)) e s1) Qi := by
  unfold iEnum aCons aNil
  rcases m e s with _ | ⟨d, s1⟩
  · simp
  · rcases d with x | j
    · cases x <;> simp
    · simp
/-- a for -/
def aft (Iv : Lo → Sto → Prop) (Qs : Fl → Lo → Sto → Prop) (dead : List Nat) (s : Sto) : Fl → Lo → Sto → Prop := fun fl e2 s2 => match fl with
  | .nx => Iv (wipeN e2 dead) (trimE s (wipeN e2 dead) s2)
  | .ct => Iv (wipeN e2 dead) (trimE s (wipeN e2 dead) s2)
  | .rt d => Qs (.rt d) e2 s2
  | .bk => Qs .nx e2 s2
@[simp] theorem aft_nx {Iv : Lo → Sto → Prop} {dead : List Nat} {s0 : Sto} : aft Iv Qs dead s0 .nx e s ↔ Iv (wipeN e dead) (trimE s0 (wipeN e dead) s) := Iff.rfl
@[simp] theorem aft_ct {Iv : Lo → Sto → Prop} {dead : List Nat} {s0 : Sto} : aft Iv Qs dead s0 .ct e s ↔ Iv (wipeN e dead) (trimE s0 (wipeN e dead) s) := Iff.rfl
@[simp] theorem aft_rt {Iv : Lo → Sto → Prop} {dead : List Nat} {s0 : Sto} {d : D} : aft Iv Qs dead s0 (.rt d) e s ↔ Qs (.rt d) e s := Iff.rfl
@[simp] theorem aft_bk {Iv : Lo → Sto → Prop} {dead : List Nat} {s0 : Sto} : aft Iv Qs dead s0 .bk e s ↔ Qs .nx e s := Iff.rfl
theorem Rs_forL {α : Type} {enc : α → D} {g : MG} {M : MS} {dead : List Nat} (Iv : Nat → Lo → Sto → Prop) (q : ∀ (e : Lo) (s : Sto) (N : Nat), Iv N e s → True) : ∀ (l : List α) (n : Nat) (e : Lo) (s : Sto), (∀ i x e s, l[i]? = some x → Iv (n + i) e s → Rc (g (enc x) e) fun e1 => Rs (M e1 s) (aft (Iv (n + i + 1)) Qs dead s)) → (∀ e s, Iv (n + l.length) e s → Qs .nx e s) → Iv n e s →
    Rs (forL none (turnF g M dead) (l.map enc) e s) Qs
  | [], n, e, s, h, q, h0 => by
    rw [List.map_nil]
    unfold forL
    rw [if_pos (ck_none _), Rs_some]
    exact q e s h0
  | x :: l, n, e, s, h, q', h0 => by
    rw [List.map_cons]
    unfold forL
    rw [if_pos (ck_none _)]
    obtain ⟨e1, h1, fl, e2, s2, h2, h3⟩ := h 0 x e s rfl h0
    have hh : ∀ i y e s, l[i]? = some y → Iv (n + 1 + i) e s → Rc (g (enc y) e) fun e1 => Rs (M e1 s) (aft (Iv (n + 1 + i + 1)) Qs dead s) := fun i y e s hy hi => by
      have := h (i + 1) y e s (by simpa using hy) (by rw [show n + (i + 1) = n + 1 + i by omega]; exact hi)
      rw [show n + (i + 1) = n + 1 + i by omega] at this
      exact this
    have hq : ∀ e s, Iv (n + 1 + l.length) e s → Qs .nx e s := fun e s hi => q' e s (by rw [show n + (x :: l).length = n + 1 + l.length by simp; omega]; exact hi)
    unfold turnF
    simp only [h1, h2]
    cases fl with
    | nx => exact Rs_forL Iv q l (n + 1) _ _ hh hq h3
    | ct => exact Rs_forL Iv q l (n + 1) _ _ hh hq h3
    | bk => exact Rs_some.mpr h3
    | rt d => exact Rs_some.mpr h3
theorem Rs_for {α : Type} (l : List α) (enc : α → D) {mi : MI} {g : MG} {M : MS} {dead : List Nat} (Iv : Nat → Lo → Sto → Prop) (hi : Ri (mi e s) fun items ck s1 => items = l.map enc ∧ ck = none ∧ Iv 0 e s1)
    (h : ∀ i x e s, l[i]? = some x → Iv i e s → Rc (g (enc x) e) fun e1 => Rs (M e1 s) (aft (Iv (i + 1)) Qs dead s)) (q : ∀ e s, Iv l.length e s → Qs .nx e s) : Rs (sFor mi g M dead e s) Qs := by
  obtain ⟨_, _, s1, h1, rfl, rfl, h2⟩ := hi
  unfold sFor
  simp only [h1]
  refine Rs_forL Iv (fun _ _ _ _ => trivial) l 0 e s1 (fun i x e s hx hi => ?_) (fun e s hi => q e s (by rwa [Nat.zero_add] at hi)) h2
  rw [Nat.zero_add] at hi ⊢
  exact h i x e s hx hi
/-- a while: a measure falls -/
theorem Rs_whileL {mt : MT} {M : MS} {dead : List Nat} (Iv : Nat → Lo → Sto → Prop) (h : ∀ m e s, Iv m e s → R (mt e s) fun b s1 => (b = false → Qs .nx e s1) ∧ (b = true → Rs (M e s1) (aft (fun e s => ∃ m', m' < m ∧ Iv m' e s) Qs dead s))) : ∀ (m n : Nat) (e : Lo) (s : Sto), m < n → Iv m e s → Rs (whileL mt M dead n e s) Qs := by
  intro m
  induction m using Nat.strongRecOn with
  | _ m ih =>
    intro n e s hn hi
    obtain ⟨n, rfl⟩ : ∃ k, n = k + 1 := ⟨n - 1, by omega⟩
    unfold whileL
    obtain ⟨b, s1, h1, h2, h3⟩ := h m e s hi
    cases b with
    | false => simp only [h1]; exact Rs_some.mpr (h2 rfl)
    | true =>
      obtain ⟨fl, e2, s2, h4, h5⟩ := h3 rfl
      simp only [h1, h4]
      cases fl with
      | nx =>
        obtain ⟨m', h6, h7⟩ := h5
        exact ih m' h6 n _ _ (by omega) h7
      | ct =>
        obtain ⟨m', h6, h7⟩ := h5
        exact ih m' h6 n _ _ (by omega) h7
      | bk => exact Rs_some.mpr h5
      | rt d => exact Rs_some.mpr h5
theorem Rs_while {mt : MT} {M : MS} {dead : List Nat} (Iv : Nat → Lo → Sto → Prop) {m : Nat} (hm : m < 2 ^ 64) (h0 : Iv m e s) (h : ∀ m e s, Iv m e s → R (mt e s) fun b s1 => (b = false → Qs .nx e s1) ∧ (b = true → Rs (M e s1) (aft (fun e s => ∃ m', m' < m ∧ Iv m' e s) Qs dead s))) : Rs (sWhile mt M dead e s) Qs :=
  Rs_whileL Iv h m _ e s hm h0
/-- a comprehension whose turns leave the store -/
theorem R_lc {α : Type} (l : List α) (enc : α → D) (f : α → PyData) (p : α → Bool) {vs : List Nat} {mi : MI} {g : MG} {mt : MT} {el : ME} (hi : Ri (mi e s) fun items ck s1 => items = l.map enc ∧ ck = none ∧ s1 = s)
    (h : ∀ x ∈ l, ∀ acc, Rc (g (enc x) (wipeN e vs)) fun e1 => R (mt e1 (s ++ [.lst acc])) fun b s2 => b = p x ∧ s2 = s ++ [.lst acc] ∧ (p x = true → R (el e1 (s ++ [.lst acc])) fun d s3 => d = .d (f x) ∧ s3 = s ++ [.lst acc])) (hl : l.length ≤ lim) (q : Q (.d (.list ((l.filter p).map f))) s) : R (eLc false vs mi g mt el e s) Q := by
  obtain ⟨_, _, _, h1, rfl, rfl, rfl⟩ := hi
  refine R.of (eLc_d f p h1 (fun x hx acc => ?_) hl) q
  obtain ⟨e1, h2, b, s2, h3, rfl, rfl, h4⟩ := h x hx acc
  refine ⟨e1, h2, h3, fun hp => ?_⟩
  obtain ⟨_, _, h5, rfl, rfl⟩ := h4 hp
  exact h5
/-- .. that takes each -/
theorem R_lcm {α : Type} (l : List α) (enc : α → D) (f : α → PyData) {vs : List Nat} {mi : MI} {g : MG} {el : ME} (hi : Ri (mi e s) fun items ck s1 => items = l.map enc ∧ ck = none ∧ s1 = s)
    (h : ∀ x ∈ l, ∀ acc, Rc (g (enc x) (wipeN e vs)) fun e1 => R (el e1 (s ++ [.lst acc])) fun d s3 => d = .d (f x) ∧ s3 = s ++ [.lst acc]) (hl : l.length ≤ lim) (q : Q (.d (.list (l.map f))) s) : R (eLc false vs mi g tTrue el e s) Q := by
  refine R_lc l enc f (fun _ => true) hi (fun x hx acc => ?_) hl (by rwa [List.filter_eq_self.mpr (fun _ _ => rfl)])
  obtain ⟨e1, h1, h2⟩ := h x hx acc
  exact ⟨e1, h1, R_tTrue.mpr ⟨rfl, rfl, fun _ => h2⟩⟩
/-- .. whose turns change the store -/
theorem R_lcI {α : Type} (l : List α) (enc : α → D) (k : Nat) (Iv : Nat → List PyData → Sto → Prop) {vs : List Nat} {mi : MI} {g : MG} {mt : MT} {el : ME} (hi : Ri (mi e s) fun items ck s1 => items = l.map enc ∧ ck = none ∧ Iv 0 [] s1)
    (hk : ∀ i acc s, Iv i acc s → s.length = k ∧ Wf s) (h : ∀ i x acc s, l[i]? = some x → Iv i acc s → Rc (g (enc x) (wipeN e vs)) fun e1 => R (mt e1 (s ++ [.lst (acc.map .d)])) fun b s1 => (b = false → ∃ s', s1 = s' ++ [.lst (acc.map .d)] ∧ Iv (i + 1) acc s') ∧ (b = true → R (el e1 s1) fun y s2 => ∃ z s', y = .d z ∧ s2 = s' ++ [.lst (acc.map .d)] ∧ Iv (i + 1) (acc ++ [z]) s'))
    (hl : l.length ≤ lim) (q : ∀ acc s, Iv l.length acc s → Q (.d (.list acc)) s) : R (eLc false vs mi g mt el e s) Q := by
  obtain ⟨_, _, s1, h1, rfl, rfl, h2⟩ := hi
  have hk1 := (hk _ _ _ h2).1
  obtain ⟨acc', s', h3, xs, rfl, h4⟩ := lcL_inv (k := k) (g := g) (mt := mt) (el := el) (e0 := wipeN e vs) (enc := enc) (fun i acc s => ∃ xs : List PyData, acc = xs.map .d ∧ Iv i xs s) (fun i acc s ⟨xs, _, hi⟩ => (hk _ _ _ hi).1) l 0 [] s1 (fun i x acc s hx ⟨xs, ea, hi⟩ => by
    subst ea
    rw [Nat.zero_add] at hi ⊢
    obtain ⟨e1, h5, b, s2, h6, h7, h8⟩ := h i x xs s hx hi
    refine ⟨e1, h5, ?_⟩
    cases b with
    | false =>
      obtain ⟨s', rfl, h9⟩ := h7 rfl
      exact .inl ⟨s', h6, xs, rfl, h9⟩
    | true =>
      obtain ⟨y, s3, h9, z, s', rfl, rfl, h10⟩ := h8 rfl
      exact .inr ⟨s2, _, s', h6, h9, xs ++ [z], by simp, h10⟩) (by simpa using hl) ⟨[], rfl, h2⟩
  rw [Nat.zero_add] at h4
  have hk2 := hk _ _ _ h4
  refine R.of (x := .d (.list xs)) (s := s') ?_ (q _ _ h4)
  unfold eLc
  simp only [h1]
  rw [hk1, h3]
  unfold lcFin
  simp only []
  rw [List.getElem?_append_right (by omega), show s1.length - s'.length = 0 by omega]
  simp only [List.getElem?_cons_zero, data_map, Bool.false_eq_true, if_false]
  rw [List.set_append_right _ _ (by omega)]
  rw [trim_wf (by omega) hk2.2]
end
end N

namespace N
open PySem L2 PyProof.Rows

mutual
def pk : PyData → Bool
  | .none => true
  | .int _ => true
  | .str _ => true
  | .tuple xs => pks xs
  | .list xs => pks xs
  | _ => false
def pks : List PyData → Bool
  | [] => true
  | x :: xs => pk x && pks xs
end
theorem pks_iff : ∀ {xs : List PyData}, pks xs = true ↔ ∀ x ∈ xs, pk x = true
  | [] => by simp [pks]
  | x :: xs => by simp [pks, pks_iff (xs := xs)]
mutual
theorem pk_plain : ∀ {x : PyData}, pk x = true → x.plain = true
  | .none, _ => rfl
  | .int _, _ => rfl
  | .str _, _ => rfl
  | .tuple xs, h => by unfold PyData.plain; exact pks_plain (by simpa [pk] using h)
  | .list xs, h => by unfold PyData.plain; exact pks_plain (by simpa [pk] using h)
  | .bool _, h => by simp [pk] at h
  | .dict _, h => by simp [pk] at h
theorem pks_plain : ∀ {xs : List PyData}, pks xs = true → PyData.plainAll xs = true
  | [], _ => rfl
  | x :: xs, h => by
    simp only [pks, Bool.and_eq_true] at h
    simp only [PyData.plainAll, Bool.and_eq_true]
    exact ⟨pk_plain h.1, pks_plain h.2⟩
end
mutual
theorem pk_eqv : ∀ {x y : PyData}, pk x = true → pk y = true → PyData.eqv x y = decide (x = y)
  | .none, y, _, h => by cases y <;> simp [PyData.eqv, pk] at h ⊢
  | .int _, y, _, h => by
    cases y with
    | int j => unfold PyData.eqv; simp [Bool.beq_eq_decide_eq]
    | _ => simp [PyData.eqv, pk] at h ⊢
  | .str _, y, _, h => by
    cases y with
    | str j => unfold PyData.eqv; simp [Bool.beq_eq_decide_eq]
    | _ => simp [PyData.eqv, pk] at h ⊢
  | .tuple xs, y, hx, h => by
    cases y with
    | tuple ys =>
      unfold PyData.eqv
      rw [pks_eqv (by simpa [pk] using hx) (by simpa [pk] using h)]
      simp
    | _ => simp [PyData.eqv, pk] at h ⊢
  | .list xs, y, hx, h => by
    cases y with
    | list ys =>
      unfold PyData.eqv
      rw [pks_eqv (by simpa [pk] using hx) (by simpa [pk] using h)]
      simp
    | _ => simp [PyData.eqv, pk] at h ⊢
  | .bool _, _, h, _ => by simp [pk] at h
  | .dict _, _, h, _ => by simp [pk] at h
theorem pks_eqv : ∀ {xs ys : List PyData}, pks xs = true → pks ys = true → PyData.eqvAll xs ys = decide (xs = ys)
  | [], [], _, _ => by simp [PyData.eqvAll]
  | [], _ :: _, _, _ => by simp [PyData.eqvAll]
  | _ :: _, [], _, _ => by simp [PyData.eqvAll]
  | x :: xs, y :: ys, h, h' => by
    simp only [pks, Bool.and_eq_true] at h h'
    unfold PyData.eqvAll
    rw [pk_eqv h.1 h'.1, pks_eqv h.2 h'.2]
    simp
end
section
variable {s : Sto}
theorem eqv_gen {a b : D} {x y : PyData} (ha : pd s a = some x) (hb : pd s b = some y) (hx : pk x = true) (hy : pk y = true) (hd : min x.depth y.depth ≤ 60) : cEqv s a b = some (decide (x = y)) := by
  unfold cEqv
  split
  · rename_i i j
    simp only [pd, Option.some.injEq] at ha hb
    subst ha; subst hb
    simp
  · simp only [ha, hb]
    rw [if_pos ⟨pk_plain hx, pk_plain hy, hd⟩, pk_eqv hx hy]
theorem v_eqP {a b : D} {x y : PyData} (ha : pd s a = some x) (hb : pd s b = some y) (hx : pk x = true) (hy : pk y = true) (hd : min x.depth y.depth ≤ 60) : cEq s a b = some (decide (x = y)) := eqv_gen ha hb hx hy hd
theorem v_neP {a b : D} {x y : PyData} (ha : pd s a = some x) (hb : pd s b = some y) (hx : pk x = true) (hy : pk y = true) (hd : min x.depth y.depth ≤ 60) : cNe s a b = some (!decide (x = y)) := by
  unfold cNe
  rw [eqv_gen ha hb hx hy hd]
@[simp] theorem v_eqB (a b : Bool) : cEq s (.d (.bool a)) (.d (.bool b)) = some (decide (a = b)) := by
  unfold cEq cEqv
  simp [PyData.plain, PyData.depth, PyData.eqv, Bool.beq_eq_decide_eq]
@[simp] theorem v_neB (a b : Bool) : cNe s (.d (.bool a)) (.d (.bool b)) = some (!decide (a = b)) := by
  unfold cNe cEqv
  simp [PyData.plain, PyData.depth, PyData.eqv, Bool.beq_eq_decide_eq]
@[simp] theorem v_eqS (a b : Str) : cEq s (.d (.str a)) (.d (.str b)) = some (decide (a = b)) := v_eqP rfl rfl rfl rfl (by simp [PyData.depth]) |>.trans (by simp)
/-- in -/
theorem any_pk {ds : List PyData} {x : PyData} (h : pks ds = true) (hx : pk x = true) : (ds.any fun z => PyData.eqv z x) = decide (x ∈ ds) := by
  induction ds with
  | nil => simp
  | cons d ds ih =>
    simp only [pks, Bool.and_eq_true] at h
    rw [List.any_cons, ih h.2, pk_eqv h.1 hx]
    by_cases e : d = x
    · simp [e]
    · simp [e, Ne.symm e, List.mem_cons, show x ≠ d from fun h => e h.symm]
theorem v_inQ {neg : Bool} {ds : List PyData} {x : PyData} (h : pks ds = true) (hx : pk x = true) (hd : min (PyData.depthAll ds) x.depth ≤ 60) : cInQ neg x ds = some (if neg then !decide (x ∈ ds) else decide (x ∈ ds)) := by
  unfold cInQ
  rw [if_pos ⟨pks_plain h, pk_plain hx, hd⟩, any_pk h hx]
theorem v_inT {neg : Bool} {ds : List PyData} {a : D} {x : PyData} (ha : pd s a = some x) (h : pks ds = true) (hx : pk x = true) (hd : min (PyData.depthAll ds) x.depth ≤ 60) : cIn neg s a (.d (.tuple ds)) = some (if neg then !decide (x ∈ ds) else decide (x ∈ ds)) := by
  unfold cIn
  simp only [ha]
  exact v_inQ h hx hd
theorem v_inL {neg : Bool} {ds : List PyData} {a : D} {x : PyData} (ha : pd s a = some x) (h : pks ds = true) (hx : pk x = true) (hd : min (PyData.depthAll ds) x.depth ≤ 60) : cIn neg s a (.d (.list ds)) = some (if neg then !decide (x ∈ ds) else decide (x ∈ ds)) := by
  unfold cIn
  simp only [ha]
  exact v_inQ h hx hd
theorem v_inD {neg : Bool} {j : Nat} {kvs : List (PyData × D)} {x : PyData} (h : s[j]? = some (.dic kvs)) (hk : isKey x = true) : cIn neg s (.d x) (.r j) = some (if neg then !dHas kvs x else dHas kvs x) := by
  unfold cIn
  simp only [h, hk, if_true]
theorem v_inK {neg : Bool} {j : Nat} {kvs : List (Key × D)} {x : PyData} {k : Key} (h : s[j]? = some (.dk kvs)) (hk : keyOf x = some k) : cIn neg s (.d x) (.r j) = some (if neg then !kHas kvs k else kHas kvs k) := by
  unfold cIn
  simp only [h, hk]
end
theorem kOK_ints (ns : List Int) : Z.kOKs (ns.map PyData.int) = true := by
  induction ns with
  | nil => rfl
  | cons n ns ih => simp [Z.kOKs, Z.kOK, ih]
theorem dep_ints (ns : List Int) : Z.deps (ns.map PyData.int) = 0 := by
  induction ns with
  | nil => rfl
  | cons n ns ih => simp [Z.deps, Z.dep, ih]
theorem key_ints (ns : List Int) : isKey (.tuple (ns.map PyData.int)) = true := by
  simp [isKey, Z.isTup, Z.kOK, kOK_ints, Z.dep, dep_ints]
end N

namespace N
open PySem L2 PyProof.Rows

theorem R_retd {own : Bool} {s s' : Sto} {x : PyData} {Q : D → Sto → Prop} : R (ret own s (.d x) s') Q ↔ Q (.d x) (trim s s') := R_some
/-- the tape stands in cells 0 and 1, what follows is kept -/
def tp (xs : List Int) (p q r : Int) (rest : Sto) : Sto := .lst (xs.map fun i => .d (.int i)) :: .lst [.r 0, .d (.int p), .d (.int q), .d (.int r)] :: rest
def TS (rest s : Sto) : Prop := ∃ xs p q r, 0 ≤ p ∧ s = tp xs p q r rest
section
variable {xs : List Int} {p q r : Int} {rest : Sto}
end
end N

namespace N
open PySem L2 PyProof.Rows

noncomputable def b__law_same (rec : FA) : MS := (sSeq (sIf (tOr (tAnd (tVal (eIsi .tup (eVar 0))) (tVal (eIsi .tup (eVar 1)))) (tAnd (tVal (eIsi .lst (eVar 0))) (tVal (eIsi .lst (eVar 1))))) (sSeq (sRet (eAnd (eCmp cEq (eCall bLen (aCons (eVar 0) aNil)) (eCall bLen (aCons (eVar 1) aNil))) (eCall bAll (aCons (eLc false [2] (iRng1 (aCons (eCall bLen (aCons (eVar 0) aNil)) aNil)) (gName 2) tTrue (eCall rec (aCons (eIt (eVar 0) (eVar 2)) (aCons (eIt (eVar 1) (eVar 2)) aNil)))) aNil))))
  sNil) sNil)
  (sSeq (sIf (tOr (tVal (eIsi .bl (eVar 0))) (tVal (eIsi .bl (eVar 1)))) (sSeq (sRet (eAnd (eIsi .bl (eVar 0)) (eAnd (eIsi .bl (eVar 1)) (eCmp cEq (eVar 0) (eVar 1)))))
  sNil) sNil)
  (sSeq (sIf (tOr (tAnd (tVal (eIsi .int (eVar 0))) (tVal (eIsi .int (eVar 1)))) (tAnd (tVal (eIsi .str (eVar 0))) (tVal (eIsi .str (eVar 1))))) (sSeq (sRet (eCmp cEq (eVar 0) (eVar 1)))
  sNil) sNil)
  (sSeq (sRet (eAnd (eCmp (cIsN false) (eVar 0) (eC .none)) (eCmp (cIsN false) (eVar 1) (eC .none))))
  sNil))))
noncomputable def m__law_same : Nat → FA
  | 0 => fun _ _ => none
  | n + 1 => fnR 2 3 false (b__law_same (m__law_same n))
/-- data that is equal to itself, of no great depth -/
def sok : Nat → PyData → Prop
  | 0, _ => False
  | n + 1, .tuple xs => xs.length ≤ lim ∧ ∀ x ∈ xs, sok n x
  | n + 1, .list xs => xs.length ≤ lim ∧ ∀ x ∈ xs, sok n x
  | _ + 1, .dict _ => False
  | _ + 1, _ => True
theorem sok_int (n : Nat) (i : Int) : sok (n + 1) (.int i) := by unfold sok; trivial
theorem sok_tup {n : Nat} {xs : List PyData} (hl : xs.length ≤ lim) (h : ∀ x ∈ xs, sok n x) : sok (n + 1) (.tuple xs) := ⟨hl, h⟩
theorem bools_true (xs : List Nat) : bools ((xs.map fun _ => PyData.bool true).map D.d) = some (xs.map fun _ => true) := by
  induction xs with
  | nil => rfl
  | cons x xs ih => simp only [List.map_cons, bools, ih]
theorem v_all {s : Sto} (xs : List Nat) : bAll s [.d (.list (xs.map fun _ => PyData.bool true))] = some (.d (.bool true), s) := by
  unfold bAll qL f1 asL
  simp only [bools_true]
  simp
theorem rng_mem {k n : Nat} (h : k ∈ List.range n) : k < n := List.mem_range.mp h
theorem same_row {F : FA} {xs : List PyData} {s : Sto} {Q : D → Sto → Prop} {l0 : Option D} {d : D} (hd : d = .d (.tuple xs) ∨ d = .d (.list xs)) (hl : xs.length ≤ lim) (h : ∀ x ∈ xs, ∀ s, F s [.d x, .d x] = some (.d (.bool true), s)) (q : Q (.d (.list ((List.range xs.length).map fun _ => .bool true))) s) :
    R (eLc false [2] (iRng1 (aCons (eCall bLen (aCons (eVar 0) aNil)) aNil)) (gName 2) tTrue (eCall F (aCons (eIt (eVar 0) (eVar 2)) (aCons (eIt (eVar 1) (eVar 2)) aNil))) [some d, some d, l0] s) Q := by
  have hl' : xs.length ≤ 1000000 := hl
  refine R_lcm (List.range xs.length) (fun k => .d (.int ((0 : Int) + (k : Nat)))) (fun _ => .bool true) ?_ (fun k hk acc => ?_) (by simpa using hl) q
  · rcases hd with rfl | rfl
    · simp [rngD]
      omega
    · simp [rngD, len_l]
      omega
  · have hk := rng_mem hk
    have hx : xs[k]? = some xs[k] := List.getElem?_eq_getElem hk
    have hh : itF (s ++ [.lst acc]) d (.d (.int (k : Nat))) = some (.d xs[k]) := by
      rcases hd with rfl | rfl
      · exact itF_t (atI_nat hx)
      · exact itF_tl (atI_nat hx)
    simp [wipeN, R_it, hh, h _ (List.getElem_mem hk)]
theorem same_ok : ∀ (n : Nat) (x : PyData) (s : Sto), sok n x → m__law_same n s [.d x, .d x] = some (.d (.bool true), s)
  | 0, _, _, h => h.elim
  | n + 1, x, s, h => by
    apply R.eq
    unfold m__law_same b__law_same
    cases x with
    | tuple xs =>
      obtain ⟨hl, h⟩ := h
      simp [R_fn, TyT.of, Z.isTup, Z.isLst, Z.isBl, Z.isInt, Z.isStr]
      refine same_row (.inl rfl) hl (fun x hx s => same_ok n x s (h x hx)) ?_
      simp [v_all, R_retd]
    | list xs =>
      obtain ⟨hl, h⟩ := h
      simp [R_fn, TyT.of, Z.isTup, Z.isLst, Z.isBl, Z.isInt, Z.isStr, len_l]
      refine same_row (.inr rfl) hl (fun x hx s => same_ok n x s (h x hx)) ?_
      simp [v_all, R_retd]
    | dict kvs => exact h.elim
    | int i => simp [R_fn, TyT.of, Z.isTup, Z.isLst, Z.isBl, Z.isInt, Z.isStr, R_retd]
    | bool i => simp [R_fn, TyT.of, Z.isTup, Z.isLst, Z.isBl, Z.isInt, Z.isStr, R_retd]
    | str i => simp [R_fn, TyT.of, Z.isTup, Z.isLst, Z.isBl, Z.isInt, Z.isStr, R_retd]
    | none => simp [R_fn, TyT.of, Z.isTup, Z.isLst, Z.isBl, Z.isInt, Z.isStr, R_retd]
theorem R_same {n : Nat} {x : PyData} {s : Sto} {Q : D → Sto → Prop} (h : sok n x) (q : Q (.d (.bool true)) s) : R (m__law_same n s [.d x, .d x]) Q := .of (same_ok n x s h) q

theorem data_mapf {α : Type} (f : α → PyData) (l : List α) : data (l.map (D.d ∘ f)) = some (l.map f) := by
  rw [← List.map_map, data_map]
theorem ret_own {s s' : Sto} {j : Nat} {Q : D → Sto → Prop} (h : s.length ≤ j) : R (ret true s (.r j) s') Q ↔ Q (.r j) s' := by
  unfold ret
  simp only [if_neg (show ¬ j < s.length by omega), if_true, R_some]
end N

namespace N
open PySem L2 PyProof.Rows

theorem or_split (a : Nat) : ∀ b : Nat, a ||| b = (a ^^^ b) + (a &&& b) := by
  induction a using Nat.strongRecOn with
  | _ a ih =>
    intro b
    by_cases h : a = 0
    · subst h; simp
    · have h1 := ih (a / 2) (by omega) (b / 2)
      have o := Nat.or_div_two (a := a) (b := b)
      have x := Nat.xor_div_two (a := a) (b := b)
      have n := Nat.and_div_two (a := a) (b := b)
      have o2 := Nat.or_mod_two_pow (a := a) (b := b) (n := 1)
      have x2 := Nat.xor_mod_two_pow (a := a) (b := b) (n := 1)
      have n2 := Nat.and_mod_two_pow (a := a) (b := b) (n := 1)
      rw [← o, ← x, ← n] at h1
      simp only [Nat.pow_one] at o2 x2 n2
      rcases Nat.mod_two_eq_zero_or_one a with e | e <;> rcases Nat.mod_two_eq_zero_or_one b with f | f <;> rw [e, f] at o2 x2 n2 <;> simp only [Nat.reduceAnd, Nat.reduceXor, Nat.reduceOr, Nat.or_zero, Nat.zero_or, Nat.xor_zero, Nat.zero_xor, Nat.and_zero, Nat.zero_and] at o2 x2 n2 <;> omega
theorem bitOr_nat (a b : Nat) : Builtin.bitOr (a : Int) (b : Int) = ((a ||| b : Nat) : Int) := by
  unfold Builtin.bitOr Builtin.bitAnd Builtin.bitNot
  rw [show decide ((0 : Int) ≤ -(a : Int) - 1) = false by simp; omega, show decide ((0 : Int) ≤ -(b : Int) - 1) = false by simp; omega]
  simp only []
  rw [show (-(-(a : Int) - 1) - 1).toNat = a by omega, show (-(-(b : Int) - 1) - 1).toNat = b by omega]
  omega
theorem bitXor_nat (a b : Nat) : Builtin.bitXor (a : Int) (b : Int) = ((a ^^^ b : Nat) : Int) := by
  have h := or_split a b
  unfold Builtin.bitXor
  rw [bitOr_nat, bitAnd_pp (by omega) (by omega)]
  simp only [Int.toNat_natCast]
  omega
/-- .. of some -/
def xr : List Nat → Nat
  | [] => 0
  | n :: ns => n ^^^ xr ns
theorem xr_app (l m : List Nat) : xr (l ++ m) = xr l ^^^ xr m := by
  induction l with
  | nil => simp [xr]
  | cons a l ih => simp only [List.cons_append, xr, ih, Nat.xor_assoc]
theorem xr_bit (j : Nat) (ns : List Nat) : (xr ns).testBit j = decide ((ns.filter fun n => n.testBit j).length % 2 = 1) := by
  induction ns with
  | nil => simp [xr]
  | cons a ns ih =>
    simp only [xr, Nat.testBit_xor, ih, List.filter_cons]
    cases a.testBit j
    · simp
    · simp only [if_true, List.length_cons]
      by_cases h : (ns.filter fun n => n.testBit j).length % 2 = 1
      · simp [h]; omega
      · simp [h]; omega
theorem xr_lt {k : Nat} {ns : List Nat} (h : ∀ n ∈ ns, n < 2 ^ k) : xr ns < 2 ^ k := by
  induction ns with
  | nil => simpa [xr] using Nat.two_pow_pos k
  | cons a ns ih => exact Nat.xor_lt_two_pow (h a List.mem_cons_self) (ih fun n hn => h n (List.mem_cons_of_mem _ hn))
theorem mod_step (x j : Nat) : x % 2 ^ (j + 1) = x % 2 ^ j + (if x.testBit j then 2 ^ j else 0) := by
  have h : (x.testBit j = true) ↔ x / 2 ^ j % 2 = 1 := by rw [Nat.testBit_eq_decide_div_mod_eq, decide_eq_true_eq]
  have h2 : x % 2 ^ (j + 1) = x % 2 ^ j + 2 ^ j * (x / 2 ^ j % 2) := by rw [Nat.pow_succ, Nat.mod_mul]
  rw [h2]
  rcases Nat.mod_two_eq_zero_or_one (x / 2 ^ j) with e | e
  · rw [if_neg (by rw [h]; omega), e]; omega
  · rw [if_pos (h.mpr e), e]; omega
end N

namespace N
open PySem L2 PyProof.Rows

noncomputable def b__law_missing : MS := (sSeq (sSet 1 (eC (.int 0)))
  (sSeq (sWhile (tCmp (cIn false) (eVar 1) (eVar 0)) (sSeq (sSet 1 (eBin (oAdd false) (eVar 1) (eC (.int 1))))
  sNil) [])
  (sSeq (sRet (eVar 1))
  sNil)))
noncomputable def m__law_missing : FA := fnR 1 2 false b__law_missing
noncomputable def b_least_missing : MS := (sSeq (sSet 1 (eDc [2] (iSeq (eVar 0)) (gName 2) tTrue (eVar 2) (eC (.bool true))))
  (sSeq (sSet 3 (eC (.int 0)))
  (sSeq (sWhile (tCmp (cIn false) (eVar 3) (eVar 1)) (sSeq (sAug 3 oIadd (eC (.int 1)))
  sNil) [])
  (sSeq (sRet (eVar 3))
  sNil))))
noncomputable def m_least_missing : FA := fnR 1 4 false b_least_missing
/-- a row of numbers -/
def nt (ns : List Nat) : List PyData := ns.map fun n => .int (n : Nat)
@[simp] theorem nt_len (ns : List Nat) : (nt ns).length = ns.length := by simp [nt]
def ci (n : Nat) : Int := n
end N

namespace N
open PySem L2 PyProof.Rows

def Rm (o : Option (List D × D)) (Q : List D → D → Prop) : Prop := ∃ ys z, o = some (ys, z) ∧ Q ys z
@[simp] theorem Rm_some {ys : List D} {z : D} {Q : List D → D → Prop} : Rm (some (ys, z)) Q ↔ Q ys z := ⟨fun ⟨_, _, h, q⟩ => by cases h; exact q, fun q => ⟨_, _, rfl, q⟩⟩
@[simp] theorem Rm_none {Q : List D → D → Prop} : Rm none Q ↔ False := ⟨fun ⟨_, _, h, _⟩ => (by cases h), False.elim⟩
theorem trim_len {s s' : Sto} (h : s'.length = s.length) : trim s s' = s' := by
  unfold trim
  split
  · rw [← h, List.take_length]
  · rfl
theorem trimE_len {s s' : Sto} {e : Lo} (h : s'.length = s.length) : trimE s e s' = s' := by
  unfold trimE
  split
  · exact trim_len h
  · rfl
@[simp] theorem trimE_last {s : Sto} {c c' : Cell} {e : Lo} : trimE (s ++ [c]) e (s ++ [c']) = s ++ [c'] := trimE_len (by simp)
@[simp] theorem set_last {s : Sto} {c c' : Cell} : (s ++ [c]).set s.length c' = s ++ [c'] := by
  rw [List.set_append_right _ _ (Nat.le_refl _), Nat.sub_self]
  rfl
section
variable {e : Lo} {s : Sto} {Q : D → Sto → Prop}
@[simp] theorem R_meth (f : FM) (ma : ME) (ms : MA) : R (eMeth f ma ms e s) Q ↔ R (ma e s) fun o s1 => match o with
  | .r j => match s1[j]? with
    | some (.lst _) => R (ms e s1) fun ds s2 => match s2[j]? with
      | some (.lst xs) => Rm (f s2 xs ds) fun ys z => Q z (s2.set j (.lst ys))
      | _ => False
    | _ => False
  | _ => False := by
  unfold eMeth
  rcases ma e s with _ | ⟨o, s1⟩
  · simp
  · rcases o with x | j
    · simp
    · simp only [R_some]
      rcases s1[j]? with _ | c
      · simp
      · rcases c with ds | kvs | kvs | kvs | ⟨rl, rh⟩ | td | ⟨iC, ifs⟩ | _
        · rcases h : ms e s1 with _ | ⟨as, s2⟩
          · simp [h]
          · simp only [h, R_some]
            rcases s2[j]? with _ | c
            · simp
            · rcases c with xs | kvs | kvs | kvs | ⟨rl, rh⟩ | td | ⟨iC, ifs⟩ | _
              · simp only []
                rcases h2 : f s2 xs as with _ | ⟨ys, z⟩ <;> simp [h2]
              · simp
              · simp
              · simp
              · simp
              · simp
              · simp
              · simp
        · simp
        · simp
        · simp
        · simp
        · simp
        · simp
        · simp
@[simp] theorem v_app {xs : List D} {d : D} {Qm : List D → D → Prop} : Rm (fApp s xs [d]) Qm ↔ xs.length < lim ∧ Qm (xs ++ [d]) (.d .none) := by
  unfold fApp
  by_cases h : xs.length < lim <;> simp [h]
theorem v_ext {xs ys : List D} {d : D} {Qm : List D → D → Prop} (h : asL s d = some ys) : Rm (fExt s xs [d]) Qm ↔ xs.length + ys.length ≤ lim ∧ Qm (xs ++ ys) (.d .none) := by
  unfold fExt
  by_cases hl : xs.length + ys.length ≤ lim <;> simp [h, hl]
@[simp] theorem v_extL {xs : List D} {ys : List PyData} {Qm : List D → D → Prop} : Rm (fExt s xs [.d (.list ys)]) Qm ↔ xs.length + ys.length ≤ lim ∧ Qm (xs ++ ys.map .d) (.d .none) := by
  rw [v_ext (ys := ys.map .d) rfl, List.length_map]
end
theorem kHas_put {kvs : List (Key × D)} {k k' : Key} {d : D} : kHas (kPut kvs k d) k' = true ↔ k' = k ∨ kHas kvs k' = true := by
  unfold kPut kHas
  split
  · rename_i h
    simp only [List.any_map, List.any_eq_true, Function.comp, decide_eq_true_eq] at h ⊢
    constructor
    · rintro ⟨kv, hm, he⟩
      split at he
      · exact .inr ⟨kv, hm, he⟩
      · exact .inr ⟨kv, hm, he⟩
    · rintro (rfl | ⟨kv, hm, he⟩)
      · obtain ⟨kv, hm, he⟩ := h
        exact ⟨kv, hm, by split <;> exact he⟩
      · exact ⟨kv, hm, by split <;> exact he⟩
  · simp only [List.any_append, List.any_cons, List.any_nil, Bool.or_false, Bool.or_eq_true, decide_eq_true_eq]
    constructor
    · rintro (h | h)
      · exact .inr h
      · exact .inl h.symm
    · rintro (h | h)
      · exact .inr h.symm
      · exact .inl h
theorem kPut_len {kvs : List (Key × D)} {k : Key} {d : D} : (kPut kvs k d).length ≤ kvs.length + 1 := by
  unfold kPut
  split <;> simp
/-- a dict of the keys of some -/
theorem R_dc {α : Type} (l : List α) (enc : α → D) (kf : α → PyData) (kk : α → Key) (df : α → D) {vs : List Nat} {mi : MI} {g : MG} {ek el : ME} {e : Lo} {s : Sto} {Q : D → Sto → Prop} (hi : Ri (mi e s) fun items ck s1 => items = l.map enc ∧ ck = none ∧ s1 = s)
    (h : ∀ x ∈ l, ∀ s', Rc (g (enc x) (wipeN e vs)) fun e1 => R (ek e1 s') fun d s3 => d = .d (kf x) ∧ s3 = s' ∧ R (el e1 s') fun d s3 => d = df x ∧ s3 = s') (hk : ∀ x ∈ l, keyOf (kf x) = some (kk x)) (hl : l.length ≤ lim)
    (q : ∀ kvs : List (Key × D), (∀ k, kHas kvs k = true ↔ ∃ x ∈ l, k = kk x) → Q (.r s.length) (s ++ [.dk kvs])) : R (eDc vs mi g tTrue ek el e s) Q := by
  obtain ⟨_, _, _, h1, rfl, rfl, rfl⟩ := hi
  rename_i s
  have run : ∀ (m : List α) (kvs : List (Key × D)), (∀ x ∈ m, x ∈ l) → kvs.length + m.length ≤ lim → ∃ kvs', dcL s.length none g tTrue ek el (wipeN e vs) (m.map enc) (s ++ [.dk kvs]) = some (s ++ [.dk kvs']) ∧ ∀ k, kHas kvs' k = true ↔ kHas kvs k = true ∨ ∃ x ∈ m, k = kk x := by
    intro m
    induction m with
    | nil =>
      intro kvs _ _
      refine ⟨kvs, ?_, fun k => by simp⟩
      rw [List.map_nil]
      unfold dcL
      rw [if_pos (ck_none _)]
    | cons x m ih =>
      intro kvs hm hl
      rw [List.length_cons] at hl
      obtain ⟨e1, h2, d, s3, h3, rfl, rfl, d2, s4, h4, rfl, rfl⟩ := h x (hm x List.mem_cons_self) (s ++ [.dk kvs])
      have hl2 := kPut_len (kvs := kvs) (k := kk x) (d := df x)
      obtain ⟨kvs', h5, h6⟩ := ih (kPut kvs (kk x) (df x)) (fun y hy => hm y (List.mem_cons_of_mem _ hy)) (by omega)
      refine ⟨kvs', ?_, fun k => ?_⟩
      · rw [List.map_cons]
        unfold dcL
        rw [if_pos (ck_none _)]
        simp only [h2, tTrue, h3, h4]
        rw [List.getElem?_append_right (Nat.le_refl _), Nat.sub_self]
        simp only [List.getElem?_cons_zero, hk x (hm x List.mem_cons_self)]
        rw [if_pos (by omega), set_last]
        exact h5
      · rw [h6, kHas_put, show (∃ y, y ∈ x :: m ∧ k = kk y) ↔ k = kk x ∨ ∃ y, y ∈ m ∧ k = kk y by simp]
        constructor
        · rintro ((h | h) | h)
          · exact .inr (.inl h)
          · exact .inl h
          · exact .inr (.inr h)
        · rintro (h | h | h)
          · exact .inl (.inr h)
          · exact .inl (.inl h)
          · exact .inr h
  obtain ⟨kvs, h2, h3⟩ := run l [] (fun _ h => h) (by simpa using hl)
  refine R.of (x := .r s.length) (s := s ++ [.dk kvs]) ?_ (q kvs fun k => by rw [h3]; simp [kHas])
  unfold eDc
  simp only [h1, h2]
/-- .. that walks a row of the store -/
theorem R_dcK {α : Type} (ck0 : Option (Nat × List D)) (l : List α) (enc : α → D) (kf : α → PyData) (kk : α → Key) (df : α → D) {vs : List Nat} {mi : MI} {g : MG} {ek el : ME} {e : Lo} {s : Sto} {Q : D → Sto → Prop} (hi : Ri (mi e s) fun items ck s1 => items = l.map enc ∧ ck = ck0 ∧ s1 = s) (hck : ∀ kvs : List (Key × D), chkOk ck0 (s ++ [.dk kvs]))
    (h : ∀ x ∈ l, ∀ s', Rc (g (enc x) (wipeN e vs)) fun e1 => R (ek e1 s') fun d s3 => d = .d (kf x) ∧ s3 = s' ∧ R (el e1 s') fun d s3 => d = df x ∧ s3 = s') (hk : ∀ x ∈ l, keyOf (kf x) = some (kk x)) (hl : l.length ≤ lim)
    (q : ∀ kvs : List (Key × D), (∀ k, kHas kvs k = true ↔ ∃ x ∈ l, k = kk x) → Q (.r s.length) (s ++ [.dk kvs])) : R (eDc vs mi g tTrue ek el e s) Q := by
  obtain ⟨_, ck1, s1, h1, rfl, hc0, h0⟩ := hi
  subst h0
  subst hc0
  have run : ∀ (m : List α) (kvs : List (Key × D)), (∀ x ∈ m, x ∈ l) → kvs.length + m.length ≤ lim → ∃ kvs', dcL s1.length ck1 g tTrue ek el (wipeN e vs) (m.map enc) (s1 ++ [.dk kvs]) = some (s1 ++ [.dk kvs']) ∧ ∀ k, kHas kvs' k = true ↔ kHas kvs k = true ∨ ∃ x ∈ m, k = kk x := by
    intro m
    induction m with
    | nil =>
      intro kvs _ _
      refine ⟨kvs, ?_, fun k => by simp⟩
      rw [List.map_nil]
      unfold dcL
      rw [if_pos (hck _)]
    | cons x m ih =>
      intro kvs hm hl
      rw [List.length_cons] at hl
      obtain ⟨e1, h2, d, s3, h3, rfl, rfl, d2, s4, h4, rfl, rfl⟩ := h x (hm x List.mem_cons_self) (s1 ++ [.dk kvs])
      have hl2 := kPut_len (kvs := kvs) (k := kk x) (d := df x)
      obtain ⟨kvs', h5, h6⟩ := ih (kPut kvs (kk x) (df x)) (fun y hy => hm y (List.mem_cons_of_mem _ hy)) (by omega)
      refine ⟨kvs', ?_, fun k => ?_⟩
      · rw [List.map_cons]
        unfold dcL
        rw [if_pos (hck _)]
        simp only [h2, tTrue, h3, h4]
        rw [List.getElem?_append_right (Nat.le_refl _), Nat.sub_self]
        simp only [List.getElem?_cons_zero, hk x (hm x List.mem_cons_self)]
        rw [if_pos (by omega), set_last]
        exact h5
      · rw [h6, kHas_put, show (∃ y, y ∈ x :: m ∧ k = kk y) ↔ k = kk x ∨ ∃ y, y ∈ m ∧ k = kk y by simp]
        constructor
        · rintro ((h | h) | h)
          · exact .inr (.inl h)
          · exact .inl h
          · exact .inr (.inr h)
        · rintro (h | h | h)
          · exact .inl (.inr h)
          · exact .inl (.inl h)
          · exact .inr h
  obtain ⟨kvs, h2, h3⟩ := run l [] (fun _ h => h) (by simpa using hl)
  refine R.of (x := .r s1.length) (s := s1 ++ [.dk kvs]) ?_ (q kvs fun k => by rw [h3]; simp [kHas])
  unfold eDc
  simp only [h1, h2]
end N

namespace N
open PySem L2 PyProof.Rows

/-- the least that is missing -/
def Mex (ns : List Nat) (k : Nat) : Prop := (∀ i < k, i ∈ ns) ∧ k ∉ ns
theorem Mex.uniq {ns : List Nat} {k k' : Nat} (h : Mex ns k) (h' : Mex ns k') : k = k' := by
  rcases Nat.lt_trichotomy k k' with l | l | l
  · exact (h.2 (h'.1 k l)).elim
  · exact l
  · exact (h'.2 (h.1 k' l)).elim
theorem mem_nt {ns : List Nat} {k : Nat} : PyData.int (k : Nat) ∈ nt ns ↔ k ∈ ns := by
  unfold nt
  rw [List.mem_map]
  constructor
  · rintro ⟨a, h, e⟩
    have : a = k := by simp at e; omega
    exact this ▸ h
  · exact fun h => ⟨k, h, rfl⟩
theorem pks_nt (ns : List Nat) : pks (nt ns) = true := pks_iff.mpr (by simp [nt, pk])
theorem v_inNt {neg : Bool} {ns : List Nat} {k : Nat} {s : Sto} : cIn neg s (.d (.int (k : Nat))) (.d (.tuple (nt ns))) = some (if neg then !decide (k ∈ ns) else decide (k ∈ ns)) := by
  rw [v_inT rfl (pks_nt ns) rfl (by simp [PyData.depth])]
  simp only [mem_nt]
theorem enum_nt (ns : List Nat) : enumD (nt ns) = ns.zipIdx.map fun p => .d (.tuple [.int (p.2 : Nat), .int (p.1 : Nat)]) := by
  rw [enumD_zip]
  unfold nt
  rw [List.zipIdx_map, List.map_map]
  rfl
end N

namespace N
open PySem L2 PyProof.Rows

def so (l : List Nat) : List Nat := l.mergeSort fun a b => decide (a ≤ b)
theorem so_perm (l : List Nat) : (so l).Perm l := List.mergeSort_perm _ _
theorem nt_eq (l : List Nat) : nt l = l.map fun n => PyData.int ((fun n : Nat => (n : Int)) n) := rfl
theorem srt_nt (l : List Nat) : Z.srt (nt l) = nt (so l) := by
  unfold Z.srt so
  rw [nt_eq, nt_eq]
  refine (List.map_mergeSort (r := fun a b : Nat => decide (a ≤ b)) (s := PySem.W.dataLe false id) (f := fun n => PyData.int ((fun n : Nat => (n : Int)) n)) (l := l) fun a _ b _ => ?_).symm
  have := congrFun (congrFun (PySem.W.dataLe_int (β := Nat) fun n => (n : Int)) a) b
  rw [show PySem.W.dataLe false id (PyData.int ((fun n : Nat => (n : Int)) a)) (PyData.int ((fun n : Nat => (n : Int)) b)) = PySem.W.dataLe false (fun b : Nat => PyData.int ((fun n : Nat => (n : Int)) b)) a b from rfl, this]
  simp
theorem srtOk_nt (l : List Nat) : SrtOk (nt l) := by
  rw [nt_eq]
  refine ⟨PySem.W.AllAlike.of fun a b => by simp [PySem.W.alike], .inl (PySem.W.Sortable.others fun b => ⟨by simp, by simp⟩), fun d hd => ?_⟩
  obtain ⟨a, _, rfl⟩ := List.mem_map.mp hd
  simp [PyData.depth]
theorem depth_nt (l : List Nat) : (PyData.tuple (nt l)).depth ≤ 1 := by
  have : PyData.depthAll (nt l) = 0 := by
    induction l with
    | nil => rfl
    | cons a l ih => rw [nt, List.map_cons, PyData.depthAll]; rw [nt] at ih; rw [ih]; simp [PyData.depth]
  simp [PyData.depth, this]
theorem R_sortI {l : List Nat} {s : Sto} {Q : D → Sto → Prop} (q : Q (.d (.list (nt (so l)))) s) : R (bSorted false s [.d (.list (nt l))]) Q := by
  unfold bSorted asL
  simp only [data_map, if_pos (srtOk_nt l), R_mkF, srt_nt]
  exact Rc_some.mpr q
/-- the heaps that stand -/
def pl (l : List Nat) : List Nat := so (l.filter fun n => decide (0 < n))
theorem sum_perm {l m : List Nat} (h : l.Perm m) : l.sum = m.sum := h.sum_nat
theorem sum_filter (l : List Nat) : (l.filter fun n => decide (0 < n)).sum = l.sum := by
  induction l with
  | nil => rfl
  | cons a l ih =>
    rw [List.filter_cons]
    by_cases h : 0 < a
    · simp [h, ih]
    · simp [h, ih]; omega
theorem pl_sum (l : List Nat) : (pl l).sum = l.sum := by rw [pl, sum_perm (so_perm _), sum_filter]
theorem pl_mem {l : List Nat} {n : Nat} : n ∈ pl l ↔ n ∈ l ∧ 0 < n := by
  rw [pl, (so_perm _).mem_iff, List.mem_filter, decide_eq_true_eq]
theorem so_sorted (l : List Nat) : (so l).Pairwise (· ≤ ·) := by
  have := List.pairwise_mergeSort (le := fun a b : Nat => decide (a ≤ b)) (fun a b c h1 h2 => by simp at *; omega) (fun a b => by simp; omega) l
  simpa [so] using this
end N

namespace N
open PySem L2 PyProof.Rows

section
variable (rst : Nat → List (List Nat)) (losing : Bool)
def opts (hs : List Nat) : List (List Nat) := (List.range hs.length).flatMap fun i => (rst (hs.getD i 0)).map fun r => pl (hs.take i ++ r ++ hs.drop (i + 1))
def secF : Nat → List Nat → Bool
  | 0, _ => false
  | f + 1, hs => if opts rst hs = [] then !losing else !((opts rst hs).any (secF f))
def sec (hs : List Nat) : Bool := secF rst losing (hs.sum + 1) hs
end
section
variable {rst : Nat → List (List Nat)} {losing : Bool}
theorem sum_split {hs : List Nat} {i : Nat} (h : i < hs.length) : hs.sum = (hs.take i).sum + hs.getD i 0 + (hs.drop (i + 1)).sum := by
  have e : hs = hs.take i ++ hs[i] :: hs.drop (i + 1) := by rw [← List.drop_eq_getElem_cons h, List.take_append_drop]
  have := congrArg List.sum e
  rw [this, List.sum_append, List.sum_cons, List.getD_eq_getElem?_getD, List.getElem?_eq_getElem h]
  simp only [Option.getD_some]
  omega
theorem mem_opts {hs o : List Nat} : o ∈ opts rst hs ↔ ∃ i, i < hs.length ∧ ∃ r ∈ rst (hs.getD i 0), o = pl (hs.take i ++ r ++ hs.drop (i + 1)) := by
  unfold opts
  simp only [List.mem_flatMap, List.mem_range, List.mem_map]
  constructor
  · rintro ⟨i, h1, r, h2, rfl⟩; exact ⟨i, h1, r, h2, rfl⟩
  · rintro ⟨i, h1, r, h2, rfl⟩; exact ⟨i, h1, r, h2, rfl⟩
theorem getD_le {hs : List Nat} {i N : Nat} (hS : ∀ a ∈ hs, a ≤ N) (h : i < hs.length) : hs.getD i 0 ≤ N := by
  rw [List.getD_eq_getElem?_getD, List.getElem?_eq_getElem h]
  exact hS _ (List.getElem_mem h)
theorem mem_le_sum {l : List Nat} {a : Nat} (h : a ∈ l) : a ≤ l.sum := by
  induction l with
  | nil => cases h
  | cons b l ih =>
    rw [List.sum_cons]
    rcases List.mem_cons.mp h with rfl | h
    · omega
    · have := ih h; omega
theorem opts_le {N : Nat} (hr : ∀ n ≤ N, ∀ r ∈ rst n, r.sum < n) {hs o : List Nat} (hS : ∀ a ∈ hs, a ≤ N) (h : o ∈ opts rst hs) : ∀ a ∈ o, a ≤ N := by
  obtain ⟨i, h1, r, h2, rfl⟩ := mem_opts.mp h
  intro a ha
  have := hr _ (getD_le hS h1) r h2
  have hN := getD_le hS h1
  rcases List.mem_append.mp (pl_mem.mp ha).1 with h3 | h3
  · rcases List.mem_append.mp h3 with h3 | h3
    · exact hS a (List.mem_of_mem_take h3)
    · have := mem_le_sum h3; omega
  · exact hS a (List.mem_of_mem_drop h3)
theorem opts_sum {N : Nat} (hr : ∀ n ≤ N, ∀ r ∈ rst n, r.sum < n) {hs o : List Nat} (hS : ∀ a ∈ hs, a ≤ N) (h : o ∈ opts rst hs) : o.sum < hs.sum := by
  obtain ⟨i, h1, r, h2, rfl⟩ := mem_opts.mp h
  have e := sum_split h1
  have := hr _ (getD_le hS h1) r h2
  rw [pl_sum, List.sum_append, List.sum_append]
  omega
theorem secF_two {N : Nat} (hr : ∀ n ≤ N, ∀ r ∈ rst n, r.sum < n) : ∀ (f g : Nat) (hs : List Nat), hs.sum < f → hs.sum < g → (∀ a ∈ hs, a ≤ N) → secF rst losing f hs = secF rst losing g hs
  | 0, _, hs, h, _, _ => by omega
  | _ + 1, 0, hs, _, h, _ => by omega
  | f + 1, g + 1, hs, h, h', hS => by
    rw [secF, secF]
    split
    · rfl
    · congr 1
      rw [Bool.eq_iff_iff, List.any_eq_true, List.any_eq_true]
      have e o (ho : o ∈ opts rst hs) : secF rst losing f o = secF rst losing g o := by
        have := opts_sum hr hS ho
        exact secF_two hr f g o (by omega) (by omega) (opts_le hr hS ho)
      constructor
      · rintro ⟨o, h1, h2⟩; exact ⟨o, h1, by rwa [← e o h1]⟩
      · rintro ⟨o, h1, h2⟩; exact ⟨o, h1, by rwa [e o h1]⟩
theorem secF_enough {N : Nat} (hr : ∀ n ≤ N, ∀ r ∈ rst n, r.sum < n) (f : Nat) (hs : List Nat) (h : hs.sum < f) (hS : ∀ a ∈ hs, a ≤ N) : secF rst losing f hs = sec rst losing hs := secF_two hr f _ hs h (by omega) hS
theorem sec_eq {N : Nat} (hr : ∀ n ≤ N, ∀ r ∈ rst n, r.sum < n) {hs : List Nat} (hS : ∀ a ∈ hs, a ≤ N) : sec rst losing hs = if opts rst hs = [] then !losing else !((opts rst hs).any (sec rst losing)) := by
  rw [show sec rst losing hs = secF rst losing (hs.sum + 1) hs from rfl]
  rw [secF]
  split
  · rfl
  · congr 1
    rw [Bool.eq_iff_iff, List.any_eq_true, List.any_eq_true]
    have h o (ho : o ∈ opts rst hs) : secF rst losing hs.sum o = sec rst losing o := by
      have := opts_sum hr hS ho
      exact secF_enough hr _ _ this (opts_le hr hS ho)
    constructor
    · rintro ⟨o, h1, h2⟩; exact ⟨o, h1, by rwa [← h o h1]⟩
    · rintro ⟨o, h1, h2⟩; exact ⟨o, h1, by rwa [h o h1]⟩
end
/-- rows that ascend from lo, of a sum of n at most -/
def rowsOf : Nat → Nat → Nat → List (List Nat)
  | 0, _, _ => [[]]
  | f + 1, lo, n => [] :: (List.range (n + 1)).flatMap fun a => if lo ≤ a ∧ 0 < a then (rowsOf f a (n - a)).map (a :: ·) else []
theorem rowsOf_mem : ∀ {l : List Nat} {f lo n : Nat}, l.Pairwise (· ≤ ·) → (∀ a ∈ l, lo ≤ a ∧ 0 < a) → l.sum ≤ n → l.length ≤ f → l ∈ rowsOf f lo n
  | [], 0, _, _, _, _, _, _ => by simp [rowsOf]
  | [], f + 1, _, _, _, _, _, _ => by simp [rowsOf]
  | a :: l, f + 1, lo, n, hp, hl, hs, hf => by
    rw [rowsOf, List.mem_cons]
    refine .inr (List.mem_flatMap.mpr ⟨a, ?_, ?_⟩)
    · rw [List.sum_cons] at hs
      rw [List.mem_range]; omega
    · rw [if_pos (hl a List.mem_cons_self)]
      rw [List.pairwise_cons] at hp
      rw [List.sum_cons] at hs
      refine List.mem_map.mpr ⟨l, rowsOf_mem hp.2 (fun b hb => ⟨hp.1 b hb, (hl b (List.mem_cons_of_mem _ hb)).2⟩) (by omega) (by simpa using hf), rfl⟩
theorem sum_len : ∀ {l : List Nat}, (∀ a ∈ l, 0 < a) → l.length ≤ l.sum
  | [], _ => by simp
  | a :: l, h => by
    have := sum_len (l := l) fun b hb => h b (List.mem_cons_of_mem _ hb)
    have := h a List.mem_cons_self
    simp; omega
/-- how many they are -/
def cntOf : Nat → Nat → Nat → Nat
  | 0, _, _ => 1
  | f + 1, lo, n => 1 + ((List.range (n + 1)).map fun a => if lo ≤ a ∧ 0 < a then cntOf f a (n - a) else 0).sum
theorem cntOf_len : ∀ (f lo n : Nat), (rowsOf f lo n).length = cntOf f lo n
  | 0, _, _ => rfl
  | f + 1, lo, n => by
    rw [rowsOf, cntOf, List.length_cons, List.length_flatMap, Nat.add_comm]
    congr 2
    refine List.map_congr_left fun a _ => ?_
    split
    · rw [List.length_map, cntOf_len f]
    · rfl
theorem nodup_le {α : Type} [DecidableEq α] : ∀ {l m : List α}, l.Nodup → (∀ x ∈ l, x ∈ m) → l.length ≤ m.length
  | [], _, _, _ => by simp
  | a :: l, m, hn, hs => by
    rw [List.nodup_cons] at hn
    have h1 := hs a List.mem_cons_self
    have := nodup_le (l := l) (m := m.erase a) hn.2 fun x hx => (List.mem_erase_of_ne (fun e => hn.1 (by rwa [e] at hx))).mpr (hs x (List.mem_cons_of_mem _ hx))
    rw [List.length_erase_of_mem h1] at this
    have := List.length_pos_of_mem h1
    simp; omega
theorem few21 : cntOf 21 0 21 ≤ 5000 := by decide +kernel
end N

namespace N
open PySem L2 PyProof.Rows

theorem nt_inj {a b : List Nat} (h : nt a = nt b) : a = b := by
  have := congrArg (List.map fun x => match x with | PyData.int i => i.toNat | _ => 0) h
  simpa [nt, Function.comp_def] using this
theorem key_nt (l : List Nat) : isKey (.tuple (nt l)) = true := by
  have := key_ints (l.map ci)
  rwa [List.map_map] at this
section
variable (rst : Nat → List (List Nat)) (losing : Bool)
def ent (h : List Nat) : PyData × D := (.tuple (nt h), .d (.bool (sec rst losing h)))
end
structure Gd (N S : Nat) (h : List Nat) : Prop where
  so : h.Pairwise (· ≤ ·)
  po : ∀ a ∈ h, 0 < a
  su : h.sum ≤ S
  le : ∀ a ∈ h, a ≤ N
structure MOK (N S : Nat) (M : List (List Nat)) : Prop where
  nd : M.Nodup
  gd : ∀ h ∈ M, Gd N S h
theorem MOK.few {N : Nat} {M : List (List Nat)} (h : MOK N 21 M) : M.length ≤ 5000 := by
  have := nodup_le (m := rowsOf 21 0 21) h.nd fun x hx => by
    have g := h.gd x hx
    exact rowsOf_mem g.so (fun a ha => ⟨Nat.zero_le _, g.po a ha⟩) g.su (Nat.le_trans (sum_len g.po) g.su)
  rw [cntOf_len] at this
  exact Nat.le_trans this few21
section
variable {rst : Nat → List (List Nat)} {losing : Bool} {c : D} {N S : Nat}
theorem MOK.put {M : List (List Nat)} {h : List Nat} (m : MOK N S M) (g : Gd N S h) : MOK N S (if h ∈ M then M else M ++ [h]) := by
  split
  · exact m
  · rename_i hn
    refine ⟨?_, fun x hx => ?_⟩
    · rw [List.nodup_append]
      exact ⟨m.nd, by simp, fun a ha b hb => by simp at hb; subst hb; exact fun e => hn (e ▸ ha)⟩
    · rcases List.mem_append.mp hx with h' | h'
      · exact m.gd x h'
      · simp at h'; exact h' ▸ g
end
end N

namespace N
open PySem L2 PyProof.Rows

section
variable {rst : Nat → List (List Nat)} {losing : Bool} {c : D} {N S : Nat}
theorem nt_get {l : List Nat} {i : Nat} (h : i < l.length) : (nt l)[i]? = some (.int (l.getD i 0 : Nat)) := by
  simp [nt, List.getElem?_map, List.getElem?_eq_getElem h, List.getD_eq_getElem?_getD]
/-- a row of a tuple -/
def ut : PyData → List Nat
  | .tuple xs => xs.map fun x => match x with
    | .int i => i.toNat
    | _ => 0
  | _ => []
theorem ut_nt (l : List Nat) : ut (.tuple (nt l)) = l := by simp [ut, nt, Function.comp_def]
theorem alike_nt (a b : List Nat) : PySem.W.alike (.tuple (nt a)) (.tuple (nt b)) = true := by
  have := PySem.W.alike_ints (a.map ci) (b.map ci)
  rw [List.map_map, List.map_map] at this
  rw [PySem.W.alike]
  exact this
theorem bools_mapf {α : Type} (f : α → Bool) (l : List α) : bools (l.map (D.d ∘ fun x => PyData.bool (f x))) = some (l.map f) := by
  induction l with
  | nil => rfl
  | cons x l ih => simp only [List.map_cons, Function.comp_apply, bools, ih]
def plo (hs : List Nat) (i : Nat) (r : List Nat) : List Nat := pl (hs.take i ++ r ++ hs.drop (i + 1))
def NewOf (rst : Nat → List (List Nat)) (hs : List Nat) (i : Nat) (o : List Nat) : Prop := ∃ i', i' < i ∧ ∃ r ∈ rst (hs.getD i' 0), o = plo hs i' r
theorem newOf_succ {hs o : List Nat} {i : Nat} : NewOf rst hs (i + 1) o ↔ NewOf rst hs i o ∨ ∃ r ∈ rst (hs.getD i 0), o = plo hs i r := by
  constructor
  · rintro ⟨i', h1, h2⟩
    rcases Nat.lt_or_ge i' i with h | h
    · exact .inl ⟨i', h, h2⟩
    · exact .inr (by rwa [show i' = i by omega] at h2)
  · rintro (⟨i', h1, h2⟩ | h)
    · exact ⟨i', by omega, h2⟩
    · exact ⟨i, by omega, h⟩
theorem newOf_all {hs o : List Nat} : NewOf rst hs hs.length o ↔ o ∈ opts rst hs := by
  rw [mem_opts]
  rfl
end
end N

namespace N
open PySem L2 PyProof.Rows

theorem xr_bit_of {T n : Nat} (hT : T ≠ 0) (hb : n.testBit T.log2 = true) : n ^^^ T < n := by
  have h1 : T.testBit T.log2 = true := by
    rw [Nat.testBit_eq_decide_div_mod_eq]
    have := Nat.log2_self_le hT
    have h2 : T < 2 ^ (T.log2 + 1) := Nat.lt_log2_self
    have : T / 2 ^ T.log2 = 1 := by
      rw [Nat.pow_succ] at h2
      exact Nat.div_eq_of_lt_le (by omega) (by omega)
    rw [this]
    rfl
  have hx : (n ^^^ T).testBit T.log2 = false := by rw [Nat.testBit_xor, hb, h1]; rfl
  have m1 := mod_step n T.log2
  have m2 := mod_step (n ^^^ T) T.log2
  rw [hb, if_pos rfl] at m1
  rw [hx, if_neg (by simp)] at m2
  have d : (n ^^^ T) / 2 ^ (T.log2 + 1) = n / 2 ^ (T.log2 + 1) := by
    apply Nat.eq_of_testBit_eq
    intro k
    rw [Nat.testBit_div_two_pow, Nat.testBit_div_two_pow, Nat.testBit_xor]
    have h2 : T < 2 ^ (T.log2 + 1 + k) := Nat.lt_of_lt_of_le Nat.lt_log2_self (Nat.pow_le_pow_right (by decide) (by omega))
    rw [Nat.add_comm k, Nat.testBit_lt_two_pow h2, Bool.xor_false]
  have l := Nat.mod_lt (n ^^^ T) (Nat.two_pow_pos T.log2)
  have e1 := Nat.div_add_mod n (2 ^ (T.log2 + 1))
  have e2 := Nat.div_add_mod (n ^^^ T) (2 ^ (T.log2 + 1))
  rw [d] at e2
  omega
theorem xor_swap {a b : Nat} : (a ^^^ b = 0) ↔ a = b := by
  constructor
  · intro h
    have := congrArg (· ^^^ b) h
    simpa [Nat.xor_assoc] using this
  · rintro rfl; simp
end N

namespace N
open PySem L2 PyProof.Rows

/-- cells that refer to nothing -/
def Flat (g : Sto) : Prop := ∀ c ∈ g, ∀ n, c.below n
theorem flat_nil : Flat [] := fun c h => by cases h
theorem flat_app {g g' : Sto} (h : Flat g) (h' : Flat g') : Flat (g ++ g') := fun c hc => (List.mem_append.mp hc).elim (h c) (h' c)
theorem flat_lst (xs : List PyData) : Flat [.lst (xs.map .d)] := fun c hc n => by
  simp only [List.mem_singleton] at hc
  subst hc
  intro j hj
  simp at hj
theorem TS.len {rest s : Sto} (h : TS rest s) : s.length = 2 + rest.length := by
  obtain ⟨xs, p, q, r, _, rfl⟩ := h
  simp [tp]; omega
theorem TS.wf {rest s : Sto} (h : TS rest s) (f : Flat rest) : Wf s := by
  have hl := h.len
  obtain ⟨xs, p, q, r, _, rfl⟩ := h
  intro c hc
  unfold tp at hc
  rcases List.mem_cons.mp hc with rfl | hc
  · intro j hj; simp at hj
  · rcases List.mem_cons.mp hc with rfl | hc
    · intro j hj
      simp at hj
      omega
    · exact f c hc _
theorem TS.app {rest s : Sto} (h : TS rest s) (g : Sto) : TS (rest ++ g) (s ++ g) := by
  obtain ⟨xs, p, q, r, hp, rfl⟩ := h
  exact ⟨xs, p, q, r, hp, rfl⟩
theorem TS.unapp {rest g s : Sto} (h : TS (rest ++ g) s) : ∃ s', s = s' ++ g ∧ TS rest s' := by
  obtain ⟨xs, p, q, r, hp, rfl⟩ := h
  exact ⟨tp xs p q r rest, rfl, xs, p, q, r, hp, rfl⟩
theorem TS.get {rest s : Sto} (h : TS rest s) (j : Nat) : s[j + 2]? = rest[j]? := by
  obtain ⟨xs, p, q, r, hp, rfl⟩ := h
  rfl
theorem TS.put {rest s : Sto} (h : TS rest s) (j : Nat) (c : Cell) : TS (rest.set j c) (s.set (j + 2) c) := by
  obtain ⟨xs, p, q, r, hp, rfl⟩ := h
  exact ⟨xs, p, q, r, hp, rfl⟩
end N

namespace N
open PySem L2 PyProof.Rows

def resC (d rest : Nat) : List (List Nat) := (if rest = 0 ∧ d % 2 = 1 then [[]] else []) ++ ((if 1 ≤ rest ∧ d / 2 % 2 = 1 then [[rest]] else []) ++ (if 2 ≤ rest ∧ d / 4 = 1 then (List.range (rest / 2)).map fun a => [a + 1, rest - (a + 1)] else []))
def rstC (c : List Nat) (n : Nat) : List (List Nat) := (List.range c.length).flatMap fun j => if j < n then resC (c.getD j 0) (n - j - 1) else []
theorem resC_sum {d rest : Nat} {r : List Nat} (h : r ∈ resC d rest) : r.sum = rest ∧ r.length ≤ 2 ∧ ∀ a ∈ r, 0 < a := by
  unfold resC at h
  rcases List.mem_append.mp h with h | h
  · split at h
    · rename_i e
      simp at h; subst h
      exact ⟨by simp; omega, by simp, by simp⟩
    · simp at h
  · rcases List.mem_append.mp h with h | h
    · split at h
      · rename_i e
        simp at h; subst h
        exact ⟨by simp, by simp, by simp; omega⟩
      · simp at h
    · split at h
      · obtain ⟨a, ha, rfl⟩ := List.mem_map.mp h
        rw [List.mem_range] at ha
        exact ⟨by simp; omega, by simp, by simp; omega⟩
      · simp at h
theorem resC_len (d rest : Nat) : (resC d rest).length ≤ 1 + rest / 2 := by
  unfold resC
  rw [List.length_append, List.length_append]
  have h1 : (if rest = 0 ∧ d % 2 = 1 then [[]] else ([] : List (List Nat))).length ≤ 1 ∧ (1 ≤ rest → (if rest = 0 ∧ d % 2 = 1 then [[]] else ([] : List (List Nat))).length = 0) := by
    split
    · rename_i h; exact ⟨by simp, fun hr => by omega⟩
    · simp
  have h2 : (if 1 ≤ rest ∧ d / 2 % 2 = 1 then [[rest]] else ([] : List (List Nat))).length ≤ 1 ∧ (rest = 0 → (if 1 ≤ rest ∧ d / 2 % 2 = 1 then [[rest]] else ([] : List (List Nat))).length = 0) := by
    split
    · rename_i h; exact ⟨by simp, fun hr => by omega⟩
    · simp
  have h3 : (if 2 ≤ rest ∧ d / 4 = 1 then (List.range (rest / 2)).map fun a => [a + 1, rest - (a + 1)] else ([] : List (List Nat))).length ≤ rest / 2 := by
    split <;> simp
  omega
theorem mem_rstC {c : List Nat} {n : Nat} {r : List Nat} : r ∈ rstC c n ↔ ∃ j, j < c.length ∧ j < n ∧ r ∈ resC (c.getD j 0) (n - j - 1) := by
  unfold rstC
  simp only [List.mem_flatMap, List.mem_range]
  constructor
  · rintro ⟨j, h1, h2⟩
    split at h2
    · exact ⟨j, h1, by assumption, h2⟩
    · cases h2
  · rintro ⟨j, h1, h2, h3⟩
    exact ⟨j, h1, by rw [if_pos h2]; exact h3⟩
theorem rstC_sum {c : List Nat} {n : Nat} {r : List Nat} (h : r ∈ rstC c n) : r.sum < n ∧ r.length ≤ 2 ∧ (∀ a ∈ r, 0 < a) ∧ ∀ a ∈ r, a < n := by
  obtain ⟨j, h1, h2, h3⟩ := mem_rstC.mp h
  obtain ⟨e1, e2, e3⟩ := resC_sum h3
  refine ⟨by omega, e2, e3, fun a ha => ?_⟩
  have := mem_le_sum ha
  omega
def mexL (l : List Nat) : Nat := ((List.range (l.length + 1)).find? fun k => decide (k ∉ l)).getD 0
theorem mexL_ok (l : List Nat) : Mex l (mexL l) := by
  have ex : ∃ k ∈ List.range (l.length + 1), k ∉ l := by
    apply Classical.byContradiction
    intro h
    have := nodup_le (l := List.range (l.length + 1)) (m := l) List.nodup_range fun x hx => Classical.byContradiction fun hn => h ⟨x, hx, hn⟩
    simp at this
    omega
  unfold mexL
  cases hf : (List.range (l.length + 1)).find? fun k => decide (k ∉ l) with
  | none =>
    obtain ⟨k, h1, h2⟩ := ex
    rw [List.find?_eq_none] at hf
    exact (hf k h1 (by simpa using h2)).elim
  | some k =>
    rw [List.find?_range_eq_some] at hf
    obtain ⟨h1, h2, h3⟩ := hf
    exact ⟨fun i hi => by have := h3 i hi; simpa using this, by simpa using h1⟩
theorem Mex.congr {l m : List Nat} {k : Nat} (h : Mex l k) (e : ∀ x, x ∈ l ↔ x ∈ m) : Mex m k := ⟨fun i hi => (e i).mp (h.1 i hi), fun hm => h.2 ((e k).mpr hm)⟩
/-- the values of heaps of 0 to n - 1 -/
def valsC (c : List Nat) : Nat → List Nat
  | 0 => []
  | n + 1 => valsC c n ++ [mexL ((rstC c n).map fun r => xr (r.map fun k => (valsC c n).getD k 0))]
def vC (c : List Nat) (n : Nat) : Nat := (valsC c (n + 1)).getD n 0
theorem valsC_len (c : List Nat) : ∀ n, (valsC c n).length = n
  | 0 => rfl
  | n + 1 => by simp [valsC, valsC_len c n]
theorem valsC_get (c : List Nat) : ∀ {m k : Nat}, k < m → (valsC c m).getD k 0 = vC c k
  | m + 1, k, h => by
    by_cases e : k = m
    · subst e; rfl
    · have hk : k < m := by omega
      have := valsC_get c hk
      rw [valsC, List.getD_eq_getElem?_getD, List.getElem?_append_left (by rw [valsC_len]; exact hk), ← List.getD_eq_getElem?_getD]
      exact this
theorem vC_mex (c : List Nat) (n : Nat) : Mex ((rstC c n).map fun r => xr (r.map (vC c))) (vC c n) := by
  have h : vC c n = mexL ((rstC c n).map fun r => xr (r.map fun k => (valsC c n).getD k 0)) := by
    unfold vC
    rw [valsC, List.getD_eq_getElem?_getD, List.getElem?_append_right (by rw [valsC_len]; exact Nat.le_refl _), valsC_len]
    simp
  have e : ((rstC c n).map fun r => xr (r.map fun k => (valsC c n).getD k 0)) = (rstC c n).map fun r => xr (r.map (vC c)) := by
    refine List.map_congr_left fun r hr => ?_
    congr 1
    refine List.map_congr_left fun a ha => ?_
    exact valsC_get c ((rstC_sum hr).2.2.2 a ha)
  rw [h, e]
  exact mexL_ok _
end N

namespace N
open PySem L2 PyProof.Rows

/-- a tuple of numbers -/
def tup (r : List Nat) : PyData := .tuple (nt r)
theorem tup_inj {a b : List Nat} (h : tup a = tup b) : a = b := by
  unfold tup at h
  exact nt_inj (PyData.tuple.inj h)
theorem ut_tup (r : List Nat) : ut (tup r) = r := ut_nt r
/-- what may be left, ascending -/
noncomputable def lcD (c : List Nat) (n : Nat) : List (List Nat) := (Z.srt (Z.dd ((rstC c n).map tup))).map ut
theorem mem_srtdd {L : List (List Nat)} {x : PyData} : x ∈ Z.srt (Z.dd (L.map tup)) ↔ ∃ r ∈ L, x = tup r := by
  rw [(Z.srt_perm _).mem_iff, Z.dd_mem, List.mem_map]
  constructor
  · rintro ⟨r, h, rfl⟩; exact ⟨r, h, rfl⟩
  · rintro ⟨r, h, rfl⟩; exact ⟨r, h, rfl⟩
theorem mem_lcD {c : List Nat} {n : Nat} {r : List Nat} : r ∈ lcD c n ↔ r ∈ rstC c n := by
  unfold lcD
  rw [List.mem_map]
  constructor
  · rintro ⟨x, h, rfl⟩
    obtain ⟨r, hr, rfl⟩ := mem_srtdd.mp h
    rwa [ut_tup]
  · intro h
    exact ⟨tup r, mem_srtdd.mpr ⟨r, h, rfl⟩, ut_tup r⟩
theorem v_min2 {s : Sto} (i j : Int) : bMin2 s [.d (.int i), .d (.int j)] = some (.d (.int (mn2 i j)), s) := rfl
theorem v_max2 {s : Sto} (i j : Int) : bMax2 s [.d (.int i), .d (.int j)] = some (.d (.int (mx2 i j)), s) := rfl
structure Cd (c : List Nat) : Prop where
  len : c.length ≤ 8
  dig : ∀ d ∈ c, d < 8
theorem filter_lt (m : Nat) : ∀ n, (List.range n).filter (fun k => decide (k < m)) = List.range (min n m)
  | 0 => by simp
  | n + 1 => by
    rw [List.range_succ, List.filter_append, filter_lt m n]
    by_cases h : n < m
    · rw [show min (n + 1) m = min n m + 1 by omega, show min n m = n by omega, List.range_succ]
      simp [h]
    · rw [show min (n + 1) m = min n m by omega]
      simp [h]
end N

namespace N
open PySem L2 PyProof.Rows

noncomputable def b_code_values : MS := (sSeq (sSet 2 (eLst true aNil))
  (sSeq (sFor (iRng1 (aCons (eBin (oAdd false) (eVar 1) (eC (.int 1))) aNil)) (gName 3) (sSeq (sSet 4 (eLst true aNil))
  (sSeq (sFor (iEnum (aCons (eVar 0) aNil)) (gTup (gsLenOk 2 (gsCons (gName 5) (gsCons (gName 6) gsNil)))) (sSeq (sSet 7 (eBin oSub (eBin oSub (eVar 3) (eVar 5)) (eC (.int 1))))
  (sSeq (sIf (tAnd (tCmp cEq (eVar 7) (eC (.int 0))) (tCmp cEq (eBin oMod (eVar 6) (eC (.int 2))) (eC (.int 1)))) (sSeq (sExpr (eMeth fApp (eVar 4) (aCons (eC (.int 0)) aNil)))
  sNil) sNil)
  (sSeq (sIf (tAnd (tCmp cGe (eVar 7) (eC (.int 1))) (tCmp cEq (eBin oMod (eBin oDiv (eVar 6) (eC (.int 2))) (eC (.int 2))) (eC (.int 1)))) (sSeq (sExpr (eMeth fApp (eVar 4) (aCons (eIt (eVar 2) (eVar 7)) aNil)))
  sNil) sNil)
  (sSeq (sIf (tAnd (tCmp cGe (eVar 7) (eC (.int 2))) (tCmp cEq (eBin oDiv (eVar 6) (eC (.int 4))) (eC (.int 1)))) (sSeq (sExpr (eMeth fExt (eVar 4) (aCons (eLc false [8] (iRng2 (aCons (eC (.int 1)) (aCons (eBin (oAdd false) (eBin oDiv (eVar 7) (eC (.int 2))) (eC (.int 1))) aNil))) (gName 8) tTrue (eBin oXor (eIt (eVar 2) (eVar 8)) (eIt (eVar 2) (eBin oSub (eVar 7) (eVar 8))))) aNil)))
  sNil) sNil)
  sNil)))) [5, 6, 7])
  (sSeq (sExpr (eMeth fApp (eVar 2) (aCons (eCall m_least_missing (aCons (eVar 4) aNil)) aNil)))
  sNil))) [3, 4, 5, 6, 7])
  (sSeq (sRet (eCall bTuple (aCons (eVar 2) aNil)))
  sNil)))
noncomputable def m_code_values : FA := fnR 2 9 false b_code_values
def DT (M : List (List Nat)) : List (PyData × D) := M.map fun r => (tup r, .d (.bool true))
theorem has_DT (M : List (List Nat)) (r : List Nat) : dHas (DT M) (tup r) = decide (r ∈ M) := by
  rw [Bool.eq_iff_iff, decide_eq_true_eq]
  unfold dHas DT
  simp only [List.any_map, List.any_eq_true, Function.comp, decide_eq_true_eq]
  exact ⟨fun ⟨x, h1, h2⟩ => tup_inj h2 ▸ h1, fun h1 => ⟨r, h1, rfl⟩⟩
theorem put_DT (M : List (List Nat)) (r : List Nat) : dPut (DT M) (tup r) (.d (.bool true)) = DT (if r ∈ M then M else M ++ [r]) := by
  unfold dPut
  rw [has_DT]
  by_cases hm : r ∈ M
  · rw [if_pos hm, decide_eq_true hm, if_pos rfl]
    unfold DT
    rw [List.map_map]
    refine List.map_congr_left fun x hx => ?_
    simp only [Function.comp]
    split <;> rfl
  · rw [if_neg hm, decide_eq_false hm, if_neg (by simp)]
    unfold DT
    rw [List.map_append]
    rfl
theorem tup_key (r : List Nat) : isKey (tup r) = true := key_nt r
/-- a dict behind s, its keys those of T -/
def DS (s : Sto) (T : List (List Nat)) (s' : Sto) : Prop := ∃ M : List (List Nat), M.Nodup ∧ (∀ r, r ∈ M ↔ r ∈ T) ∧ s' = s ++ [.dic (DT M)]
theorem DS.len {s s' : Sto} {T : List (List Nat)} (h : DS s T s') : s'.length = s.length + 1 := by
  obtain ⟨M, _, _, rfl⟩ := h
  simp
theorem DS.put {s s' : Sto} {T : List (List Nat)} (h : DS s T s') (hT : T.length ≤ 10000) (r : List Nat) : Rc (putF s' (.r s.length) (.d (tup r)) (.d (.bool true))) fun s4 => DS s (T ++ [r]) s4 := by
  obtain ⟨M, nd, hm, rfl⟩ := h
  have hl : M.length ≤ T.length := nodup_le nd fun x hx => (hm x).mp hx
  have hp := putF_k (s := s ++ [.dic (DT M)]) (j := s.length) (kvs := DT M) (xs := nt r) (d := .d (.bool true)) (by simp) (key_nt r) (by simp [DT, lim]; omega)
  rw [show PyData.tuple (nt r) = tup r from rfl, put_DT, set_last] at hp
  rw [hp, Rc_some]
  refine ⟨_, ?_, fun x => ?_, rfl⟩
  · split
    · exact nd
    · rename_i hn
      rw [List.nodup_append]
      exact ⟨nd, by simp, fun a ha b hb => by simp at hb; subst hb; exact fun e => hn (e ▸ ha)⟩
  · split
    · rename_i hin
      rw [List.mem_append, ← hm, List.mem_singleton]
      exact ⟨.inl, fun h => h.elim id fun e => e ▸ hin⟩
    · rw [List.mem_append, List.mem_append, hm]
theorem srtOk_tup (M : List (List Nat)) : SrtOk (M.map tup) := by
  refine ⟨PySem.W.AllAlike.of fun a b => alike_nt a b, .inr fun d hd => ?_, fun d hd => ?_⟩
  · obtain ⟨a, _, rfl⟩ := List.mem_map.mp hd
    exact ⟨_, rfl⟩
  · obtain ⟨a, _, rfl⟩ := List.mem_map.mp hd
    have := depth_nt a
    exact Nat.le_trans this (by decide)
theorem dd_nodup : ∀ l : List PyData, (Z.dd l).Nodup
  | [] => List.nodup_nil
  | a :: l => by
    unfold Z.dd
    split
    · exact dd_nodup l
    · rename_i h
      exact List.nodup_cons.mpr ⟨fun hm => h (Z.dd_mem.mp hm), dd_nodup l⟩
theorem zip_nt {c : List Nat} {i : Nat} (hi : i < c.length) : c.zipIdx[i]? = some (c.getD i 0, i) := by
  rw [List.getElem?_zipIdx, List.getElem?_eq_getElem hi, List.getD_eq_getElem?_getD, List.getElem?_eq_getElem hi]
  simp
def addC (c : List Nat) (n j : Nat) : List (List Nat) := if j < n then resC (c.getD j 0) (n - j - 1) else []
def addCs (c : List Nat) (n i : Nat) : List (List Nat) := (List.range i).flatMap (addC c n)
theorem addCs_succ (c : List Nat) (n i : Nat) : addCs c n (i + 1) = addCs c n i ++ addC c n i := by
  unfold addCs
  rw [List.range_succ, List.flatMap_append]
  simp
theorem addCs_len {c : List Nat} {n : Nat} (hn : n ≤ 1000) (i : Nat) : (addCs c n i).length ≤ i * 501 := by
  induction i with
  | zero => simp [addCs]
  | succ i ih =>
    rw [addCs_succ, List.length_append]
    have : (addC c n i).length ≤ 501 := by
      unfold addC
      split
      · have := resC_len (c.getD i 0) (n - i - 1)
        omega
      · simp
    omega
end N

namespace N
open PySem L2 PyProof.Rows

theorem R_missL {ns : List Nat} {M j : Nat} {s : Sto} (hj : s[j]? = some (.lst ((nt ns).map .d))) (hl : ns.length ≤ lim) (hM : ∀ n ∈ ns, n < M) (hM2 : M < 2 ^ 63) {Q : D → Sto → Prop} (q : ∀ k, Mex ns k → Q (.d (.int (k : Nat))) s) : R (m_least_missing s [.r j]) Q := by
  have hjl : j < s.length := by
    rcases Nat.lt_or_ge j s.length with h | h
    · exact h
    · rw [List.getElem?_eq_none h] at hj; cases hj
  unfold m_least_missing b_least_missing
  simp [R_fn]
  refine R_dcK (some (j, (nt ns).map .d)) ns (fun n => .d (.int (n : Nat))) (fun n => .int (n : Nat)) (fun n => .inl (n : Nat)) (fun _ => .d (.bool true)) ?_ (fun kvs => ?_) (fun x hx s' => by simp [wipeN]) (fun x hx => rfl) hl (fun kvs hk => ?_)
  · simp only [Ri_seq, R_Var, List.getElem?_cons_zero, hj]
    exact ⟨by simp [nt], trivial, trivial⟩
  · show (s ++ [Cell.dk kvs])[j]? = some (.lst ((nt ns).map .d))
    rw [List.getElem?_append_left hjl]
    exact hj
  have hk' (k : Nat) : kHas kvs (.inl (k : Int)) = decide (k ∈ ns) := by
    rw [Bool.eq_iff_iff, hk, decide_eq_true_eq]
    constructor
    · rintro ⟨x, h, e⟩
      have : k = x := by simp at e; omega
      exact this ▸ h
    · exact fun h => ⟨k, h, rfl⟩
  refine Rs_while (fun m e s' => s' = s ++ [.dk kvs] ∧ ∃ k : Nat, (∀ i < k, i ∈ ns) ∧ m + k = M ∧ e = [some (.r j), some (.r s.length), none, some (.d (.int (k : Nat)))]) (m := M) (by omega) ⟨rfl, 0, by simp, by simp, rfl⟩ (fun m e s' hi => ?_)
  obtain ⟨rfl, k, h1, h2, rfl⟩ := hi
  have hin : cIn false (s ++ [.dk kvs]) (.d (.int (k : Nat))) (.r s.length) = some (decide (k ∈ ns)) := by
    rw [v_inK (kvs := kvs) (k := .inl (k : Nat)) (by simp) rfl, hk']
    simp
  simp [hin]
  refine ⟨fun h => ?_, fun h => ?_⟩
  · exact q k ⟨h1, h⟩
  · have := hM k h
    refine ⟨m - 1, by omega, k + 1, fun i hi => ?_, by omega, by simp [wipeN]⟩
    rcases Nat.lt_or_ge i k with h' | h'
    · exact h1 i h'
    · rwa [show i = k by omega]
def WC (c : List Nat) (r : List Nat) : Nat := xr (r.map (vC c))
theorem Mex.le {l : List Nat} {k : Nat} (h : Mex l k) : k ≤ l.length := by
  have := nodup_le (l := List.range k) (m := l) List.nodup_range fun x hx => h.1 x (List.mem_range.mp hx)
  simpa using this
theorem addCs_all (c : List Nat) (n : Nat) : addCs c n c.length = rstC c n := rfl
theorem vC_le {c : List Nat} (hc : Cd c) {n : Nat} (hn : n ≤ 1000) : vC c n ≤ 4008 := by
  have h1 := (vC_mex c n).le
  have h2 := addCs_len (c := c) hn c.length
  rw [addCs_all] at h2
  rw [List.length_map] at h1
  have := hc.len
  have : c.length * 501 ≤ 8 * 501 := Nat.mul_le_mul_right _ this
  omega
theorem WC_lt {c : List Nat} (hc : Cd c) {n : Nat} (hn : n ≤ 1000) {r : List Nat} (h : r ∈ rstC c n) : WC c r < 4096 := by
  refine xr_lt (k := 12) fun x hx => ?_
  obtain ⟨a, ha, rfl⟩ := List.mem_map.mp hx
  have := (rstC_sum h).2.2.2 a ha
  have := vC_le hc (n := a) (by omega)
  omega
theorem valsC_snoc (c : List Nat) (n : Nat) : valsC c (n + 1) = valsC c n ++ [vC c n] := by
  have h : (valsC c (n + 1)).getD n 0 = vC c n := rfl
  rw [valsC, List.getD_eq_getElem?_getD, List.getElem?_append_right (by rw [valsC_len]; exact Nat.le_refl _), valsC_len] at h
  rw [Nat.sub_self, List.getElem?_cons_zero, Option.getD_some] at h
  rw [valsC, h]
theorem trimE_swap {s g : Sto} {a a' : Cell} {e : Lo} (h : a'.below (s.length + 1)) (he : LoBelow (s.length + 1) e) : trimE (s ++ [a]) e (s ++ [a'] ++ g) = s ++ [a'] := by
  have hs : Safe (s ++ [a]) (s ++ [a'] ++ g) := by
    refine ⟨by simp, fun j c hj hc => ?_⟩
    rw [List.length_append, List.length_singleton] at hj
    rw [List.getElem?_append_left (by simpa using hj)] at hc
    by_cases e : j = s.length
    · subst e
      rw [List.getElem?_concat_length] at hc
      cases hc
      exact .inr (by simpa using h)
    · rw [List.getElem?_append_left (by omega)] at hc
      exact .inl (by rw [List.getElem?_append_left (by omega)]; exact hc)
  unfold trimE trim
  rw [if_pos (by simpa using he), if_pos hs, List.length_append, List.length_singleton]
  exact List.take_left' (by simp)
theorem set_mid {s : Sto} {a a' b : Cell} : (s ++ [a] ++ [b]).set s.length a' = s ++ [a'] ++ [b] := by
  rw [List.set_append_left _ _ (by simp), set_last]
theorem lst_below (xs : List PyData) (n : Nat) : (Cell.lst (xs.map .d)).below n := fun j h => by simp at h
/-- numbers of a row in the store -/
def cl (ns : List Nat) : Cell := .lst ((nt ns).map .d)
theorem cl_at {s : Sto} {c : List Nat} {size k j : Nat} (h : s[j]? = some (cl (valsC c size))) (hk : k < size) : itF s (.r j) (.d (.int (k : Nat))) = some (.d (.int (vC c k : Nat))) := by
  refine itF_l h (atI_nat ?_)
  rw [List.getElem?_map, nt_get (by rw [valsC_len]; exact hk), valsC_get c hk]
  rfl
theorem values_ok {c : List Nat} (hc : Cd c) {n : Nat} (hn : n ≤ 1000) (s : Sto) : m_code_values s [.d (.tuple (nt c)), .d (.int (n : Nat))] = some (.d (.tuple (nt (valsC c (n + 1)))), s) := by
  apply R.eq
  unfold m_code_values b_code_values
  rw [R_fn]
  refine ⟨rfl, ?_⟩
  simp only [List.map_cons, List.map_nil, List.length_cons, List.length_nil, Nat.reduceSub, Nat.reduceAdd, List.replicate_succ, List.replicate_zero, List.cons_append, List.nil_append]
  rw [Rs_seq, Rs_set]
  simp only [Rs_nil, R_call, R_cons, R_nil, R_Var, R_C, R_bin, R_cmp, R_tcmp, R_tOr, R_tAnd, R_tNot, R_tVal, R_tTrue, R_ite, R_eAnd, R_eOr, R_eNot, R_neg, R_tup, R_isi, R_some, Rc_some, N.v_eq, N.v_ne, N.v_lt, N.v_le, N.v_gt, N.v_ge, N.v_add, N.v_sub, N.v_iadd, N.v_xor, N.v_int, N.tru_b, N.pd_d, N.data_nil, N.data_cons, N.len_t, N.v_tupT, N.g_name, N.isNone_n, N.isNone_t, N.isNone_i, N.v_isN, N.v_isNn, N.v_eqB, N.v_neB, List.set_cons_succ, List.set_cons_zero, List.getElem?_cons_succ, List.getElem?_cons_zero, Bool.not_true, Bool.not_false, Bool.false_eq_true, Bool.true_eq_false, eq_self, true_implies, false_implies, true_and, and_true, decide_true, decide_false, Int.zero_add, N.R_sl, N.R_it, R_oNone, R_oSome, wipeN, N.R_lst, N.R_mkF, N.R_mkT, N.R_meth, N.v_addT, Ri_rng1, Ri_rng2, Ri_seq]
  refine ⟨by simp [lim], ?_⟩
  rw [thn_nx, Rs_seq]
  have hcl := hc.len
  refine Rs_for (List.range (n + 1)) (fun k => .d (.int ((0 : Int) + (k : Nat)))) (fun i e s' => s' = s ++ [cl (valsC c i)] ∧ e = [some (.d (.tuple (nt c))), some (.d (.int (n : Nat))), some (.r s.length), none, none, none, none, none, none]) ?_ (fun i x e s' hx hi => ?_) (fun e s' hi => ?_)
  · simp only [Rs_nil, R_call, R_cons, R_nil, R_Var, R_C, R_bin, R_cmp, R_tcmp, R_tOr, R_tAnd, R_tNot, R_tVal, R_tTrue, R_ite, R_eAnd, R_eOr, R_eNot, R_neg, R_tup, R_isi, R_some, Rc_some, N.v_eq, N.v_ne, N.v_lt, N.v_le, N.v_gt, N.v_ge, N.v_add, N.v_sub, N.v_iadd, N.v_xor, N.v_int, N.tru_b, N.pd_d, N.data_nil, N.data_cons, N.len_t, N.v_tupT, N.g_name, N.isNone_n, N.isNone_t, N.isNone_i, N.v_isN, N.v_isNn, N.v_eqB, N.v_neB, List.set_cons_succ, List.set_cons_zero, List.getElem?_cons_succ, List.getElem?_cons_zero, Bool.not_true, Bool.not_false, Bool.false_eq_true, Bool.true_eq_false, eq_self, true_implies, false_implies, true_and, and_true, decide_true, decide_false, Int.zero_add, N.R_sl, N.R_it, R_oNone, R_oSome, wipeN, N.R_lst, N.R_mkF, N.R_mkT, N.R_meth, N.v_addT, Ri_rng1, Ri_rng2, Ri_seq]
    refine ⟨by omega, ?_⟩
    rw [show (((n : Nat) : Int) + 1).toNat = n + 1 by omega]
    simp [rngD, cl, valsC, nt]
  · obtain ⟨rfl, rfl⟩ := hi
    obtain ⟨hi, rfl⟩ : i < n + 1 ∧ i = x := by
      obtain ⟨h1, h2⟩ := List.getElem?_eq_some_iff.mp hx
      simp at h1 h2
      exact ⟨by omega, h2⟩
    rw [g_name, Rc_some, Rs_seq, Rs_set]
    simp only [Rs_nil, R_call, R_cons, R_nil, R_Var, R_C, R_bin, R_cmp, R_tcmp, R_tOr, R_tAnd, R_tNot, R_tVal, R_tTrue, R_ite, R_eAnd, R_eOr, R_eNot, R_neg, R_tup, R_isi, R_some, Rc_some, N.v_eq, N.v_ne, N.v_lt, N.v_le, N.v_gt, N.v_ge, N.v_add, N.v_sub, N.v_iadd, N.v_xor, N.v_int, N.tru_b, N.pd_d, N.data_nil, N.data_cons, N.len_t, N.v_tupT, N.g_name, N.isNone_n, N.isNone_t, N.isNone_i, N.v_isN, N.v_isNn, N.v_eqB, N.v_neB, List.set_cons_succ, List.set_cons_zero, List.getElem?_cons_succ, List.getElem?_cons_zero, Bool.not_true, Bool.not_false, Bool.false_eq_true, Bool.true_eq_false, eq_self, true_implies, false_implies, true_and, and_true, decide_true, decide_false, Int.zero_add, N.R_sl, N.R_it, R_oNone, R_oSome, wipeN, N.R_lst, N.R_mkF, N.R_mkT, N.R_meth, N.v_addT, Ri_rng1, Ri_rng2, Ri_seq]
    refine ⟨by simp [lim], ?_⟩
    rw [thn_nx, Rs_seq]
    have hlen : (s ++ [cl (valsC c i)]).length = s.length + 1 := by simp
    rw [hlen]
    refine Rs_for c.zipIdx (fun p => .d (.tuple [.int (p.2 : Nat), .int (p.1 : Nat)])) (fun j e s' => s' = s ++ [cl (valsC c i)] ++ [cl ((addCs c i j).map (WC c))] ∧ e = [some (.d (.tuple (nt c))), some (.d (.int (n : Nat))), some (.r s.length), some (.d (.int (i : Nat))), some (.r (s.length + 1)), none, none, none, none]) ?_ (fun j p e s' hp hj => ?_) (fun e s' hj => ?_)
    · rw [Ri_enumT, R_Var]
      simp only [List.getElem?_cons_zero, enum_nt]
      simp [cl, addCs, nt]
    · obtain ⟨rfl, rfl⟩ := hj
      have hj : j < c.length := by
        have := (List.getElem?_eq_some_iff.mp hp).1
        simpa using this
      have e := zip_nt hj
      rw [hp] at e
      cases e
      have hT := addCs_len (c := c) (n := i) (by omega) j
      have hT : (addCs c i j).length ≤ 4008 := by omega
      rw [addCs_succ]
      unfold addC
      generalize addCs c i j = T at hT
      generalize c.getD j 0 = d
      simp only [g_tup, gs_len, gs_cons, gs_nil, g_name, List.length_cons, List.length_nil, Nat.reduceAdd, if_true, List.set_cons_succ, List.set_cons_zero, Rc_some]
      rw [Rs_seq, Rs_set]
      simp only [Rs_nil, R_call, R_cons, R_nil, R_Var, R_C, R_bin, R_cmp, R_tcmp, R_tOr, R_tAnd, R_tNot, R_tVal, R_tTrue, R_ite, R_eAnd, R_eOr, R_eNot, R_neg, R_tup, R_isi, R_some, Rc_some, N.v_eq, N.v_ne, N.v_lt, N.v_le, N.v_gt, N.v_ge, N.v_add, N.v_sub, N.v_iadd, N.v_xor, N.v_int, N.tru_b, N.pd_d, N.data_nil, N.data_cons, N.len_t, N.v_tupT, N.g_name, N.isNone_n, N.isNone_t, N.isNone_i, N.v_isN, N.v_isNn, N.v_eqB, N.v_neB, List.set_cons_succ, List.set_cons_zero, List.getElem?_cons_succ, List.getElem?_cons_zero, Bool.not_true, Bool.not_false, Bool.false_eq_true, Bool.true_eq_false, eq_self, true_implies, false_implies, true_and, and_true, decide_true, decide_false, Int.zero_add, N.R_sl, N.R_it, R_oNone, R_oSome, wipeN, N.R_lst, N.R_mkF, N.R_mkT, N.R_meth, N.v_addT, Ri_rng1, Ri_rng2, Ri_seq]
      rw [thn_nx, Rs_seq]
      have en : ∀ X : List Nat, trimE (s ++ [cl (valsC c i)] ++ [cl (T.map (WC c))]) (wipeN [some (.d (.tuple (nt c))), some (.d (.int (n : Nat))), some (.r s.length), some (.d (.int (i : Nat))), some (.r (s.length + 1)), some (.d (.int (j : Nat))), some (.d (.int (d : Nat))), some (.d (.int (((i : Nat) : Int) - (j : Nat) - 1))), none] [5, 6, 7]) (s ++ [cl (valsC c i)] ++ [cl X]) = s ++ [cl (valsC c i)] ++ [cl X] := fun X => trimE_last
      by_cases hin : j < i
      · rw [if_pos hin]
        have hrest : ((i : Nat) : Int) - (j : Nat) - 1 = ((i - j - 1 : Nat) : Int) := by omega
        rw [hrest] at en ⊢
        have hr1 : i - j - 1 < i := by omega
        generalize i - j - 1 = rest at hr1 en
        have g0 : ∀ X : List Nat, (s ++ [cl (valsC c i)] ++ [cl X])[s.length]? = some (cl (valsC c i)) := fun X => by simp
        have g1 : ∀ X : List Nat, (s ++ [cl (valsC c i)] ++ [cl X])[s.length + 1]? = some (.lst ((nt X).map .d)) := fun X => by simp [cl]
        have st : ∀ (X : List Nat) (Y : List Nat), (s ++ [cl (valsC c i)] ++ [cl X]).set (s.length + 1) (.lst ((nt X).map D.d ++ (nt Y).map D.d)) = s ++ [cl (valsC c i)] ++ [cl (X ++ Y)] := fun X Y => by
          have := set_last (s := s ++ [cl (valsC c i)]) (c := cl X) (c' := cl (X ++ Y))
          rw [List.length_append, List.length_singleton] at this
          rw [← this]
          congr 1
          simp [cl, nt]
        unfold resC
        rw [List.map_append, List.map_append]
        refine Rs.imp (Q := fun fl e' s2 => fl = .nx ∧ s2 = s ++ [cl (valsC c i)] ++ [cl (T.map (WC c) ++ (if rest = 0 ∧ d % 2 = 1 then [[]] else []).map (WC c))] ∧ e' = [some (.d (.tuple (nt c))), some (.d (.int (n : Nat))), some (.r s.length), some (.d (.int (i : Nat))), some (.r (s.length + 1)), some (.d (.int (j : Nat))), some (.d (.int (d : Nat))), some (.d (.int (rest : Nat))), none]) ?_ ?_
        · rw [Rs_if]
          simp only [Rs_nil, R_call, R_cons, R_nil, R_Var, R_C, R_bin, R_cmp, R_tcmp, R_tOr, R_tAnd, R_tNot, R_tVal, R_tTrue, R_ite, R_eAnd, R_eOr, R_eNot, R_neg, R_tup, R_isi, R_some, Rc_some, N.v_eq, N.v_ne, N.v_lt, N.v_le, N.v_gt, N.v_ge, N.v_add, N.v_sub, N.v_iadd, N.v_xor, N.v_int, N.tru_b, N.pd_d, N.data_nil, N.data_cons, N.len_t, N.v_tupT, N.g_name, N.isNone_n, N.isNone_t, N.isNone_i, N.v_isN, N.v_isNn, N.v_eqB, N.v_neB, List.set_cons_succ, List.set_cons_zero, List.getElem?_cons_succ, List.getElem?_cons_zero, Bool.not_true, Bool.not_false, Bool.false_eq_true, Bool.true_eq_false, eq_self, true_implies, false_implies, true_and, and_true, decide_true, decide_false, Int.zero_add, N.R_sl, N.R_it, R_oNone, R_oSome, wipeN, N.R_lst, N.R_mkF, N.R_mkT, N.R_meth, N.v_addT, Ri_rng1, Ri_rng2, Ri_seq, v_mod (j := 2) (by decide), v_div (j := 2) (by decide) (by decide), v_div (j := 4) (by decide) (by decide)]
          refine ⟨fun h1 => ⟨fun h2 => ?_, fun h2 => ?_⟩, fun h1 => ?_⟩
          · have c1 : rest = 0 ∧ d % 2 = 1 := ⟨by simpa using h1, by have := of_decide_eq_true h2; omega⟩
            rw [if_pos c1, Rs_seq, Rs_expr]
            simp only [Rs_nil, R_call, R_cons, R_nil, R_Var, R_C, R_bin, R_cmp, R_tcmp, R_tOr, R_tAnd, R_tNot, R_tVal, R_tTrue, R_ite, R_eAnd, R_eOr, R_eNot, R_neg, R_tup, R_isi, R_some, Rc_some, N.v_eq, N.v_ne, N.v_lt, N.v_le, N.v_gt, N.v_ge, N.v_add, N.v_sub, N.v_iadd, N.v_xor, N.v_int, N.tru_b, N.pd_d, N.data_nil, N.data_cons, N.len_t, N.v_tupT, N.g_name, N.isNone_n, N.isNone_t, N.isNone_i, N.v_isN, N.v_isNn, N.v_eqB, N.v_neB, List.set_cons_succ, List.set_cons_zero, List.getElem?_cons_succ, List.getElem?_cons_zero, Bool.not_true, Bool.not_false, Bool.false_eq_true, Bool.true_eq_false, eq_self, true_implies, false_implies, true_and, and_true, decide_true, decide_false, Int.zero_add, N.R_sl, N.R_it, R_oNone, R_oSome, wipeN, N.R_lst, N.R_mkF, N.R_mkT, N.R_meth, N.v_addT, Ri_rng1, Ri_rng2, Ri_seq, g1, v_app]
            have := st (T.map (WC c)) [0]
            refine ⟨by simp [lim]; omega, ?_⟩
            rw [thn_nx, Rs_nil]
            refine ⟨rfl, ?_, rfl⟩
            rw [show [D.d (.int 0)] = (nt [0]).map D.d from rfl, this]
            rfl
          · have c1 : ¬ (rest = 0 ∧ d % 2 = 1) := fun h => by have := of_decide_eq_false h2; omega
            rw [if_neg c1]
            simp
          · have c1 : ¬ (rest = 0 ∧ d % 2 = 1) := fun h => by simp [h.1] at h1
            rw [if_neg c1]
            simp
        · rintro fl e' s2 ⟨rfl, rfl, rfl⟩
          have hA : (if rest = 0 ∧ d % 2 = 1 then [[]] else ([] : List (List Nat))).length ≤ 1 := by split <;> simp
          have hTA : (T.map (WC c) ++ (if rest = 0 ∧ d % 2 = 1 then [[]] else ([] : List (List Nat))).map (WC c)).length ≤ 4009 := by rw [List.length_append, List.length_map, List.length_map]; omega
          rw [← List.append_assoc]
          generalize T.map (WC c) ++ (if rest = 0 ∧ d % 2 = 1 then [[]] else ([] : List (List Nat))).map (WC c) = T2 at hTA
          rw [List.map_append, ← List.append_assoc]
          rw [thn_nx, Rs_seq]
          refine Rs.imp (Q := fun fl e' s2 => fl = .nx ∧ s2 = s ++ [cl (valsC c i)] ++ [cl (T2 ++ (if 1 ≤ rest ∧ d / 2 % 2 = 1 then [[rest]] else []).map (WC c))] ∧ e' = [some (.d (.tuple (nt c))), some (.d (.int (n : Nat))), some (.r s.length), some (.d (.int (i : Nat))), some (.r (s.length + 1)), some (.d (.int (j : Nat))), some (.d (.int (d : Nat))), some (.d (.int (rest : Nat))), none]) ?_ ?_
          · rw [Rs_if]
            simp only [Rs_nil, R_call, R_cons, R_nil, R_Var, R_C, R_bin, R_cmp, R_tcmp, R_tOr, R_tAnd, R_tNot, R_tVal, R_tTrue, R_ite, R_eAnd, R_eOr, R_eNot, R_neg, R_tup, R_isi, R_some, Rc_some, N.v_eq, N.v_ne, N.v_lt, N.v_le, N.v_gt, N.v_ge, N.v_add, N.v_sub, N.v_iadd, N.v_xor, N.v_int, N.tru_b, N.pd_d, N.data_nil, N.data_cons, N.len_t, N.v_tupT, N.g_name, N.isNone_n, N.isNone_t, N.isNone_i, N.v_isN, N.v_isNn, N.v_eqB, N.v_neB, List.set_cons_succ, List.set_cons_zero, List.getElem?_cons_succ, List.getElem?_cons_zero, Bool.not_true, Bool.not_false, Bool.false_eq_true, Bool.true_eq_false, eq_self, true_implies, false_implies, true_and, and_true, decide_true, decide_false, Int.zero_add, N.R_sl, N.R_it, R_oNone, R_oSome, wipeN, N.R_lst, N.R_mkF, N.R_mkT, N.R_meth, N.v_addT, Ri_rng1, Ri_rng2, Ri_seq, v_mod (j := 2) (by decide), v_div (j := 2) (by decide) (by decide), v_div (j := 4) (by decide) (by decide)]
            refine ⟨fun h1 => ⟨fun h2 => ?_, fun h2 => ?_⟩, fun h1 => ?_⟩
            · have c1 : 1 ≤ rest ∧ d / 2 % 2 = 1 := ⟨by have := of_decide_eq_true h1; omega, by have := of_decide_eq_true h2; omega⟩
              rw [if_pos c1, Rs_seq, Rs_expr]
              simp only [Rs_nil, R_call, R_cons, R_nil, R_Var, R_C, R_bin, R_cmp, R_tcmp, R_tOr, R_tAnd, R_tNot, R_tVal, R_tTrue, R_ite, R_eAnd, R_eOr, R_eNot, R_neg, R_tup, R_isi, R_some, Rc_some, N.v_eq, N.v_ne, N.v_lt, N.v_le, N.v_gt, N.v_ge, N.v_add, N.v_sub, N.v_iadd, N.v_xor, N.v_int, N.tru_b, N.pd_d, N.data_nil, N.data_cons, N.len_t, N.v_tupT, N.g_name, N.isNone_n, N.isNone_t, N.isNone_i, N.v_isN, N.v_isNn, N.v_eqB, N.v_neB, List.set_cons_succ, List.set_cons_zero, List.getElem?_cons_succ, List.getElem?_cons_zero, Bool.not_true, Bool.not_false, Bool.false_eq_true, Bool.true_eq_false, eq_self, true_implies, false_implies, true_and, and_true, decide_true, decide_false, Int.zero_add, N.R_sl, N.R_it, R_oNone, R_oSome, wipeN, N.R_lst, N.R_mkF, N.R_mkT, N.R_meth, N.v_addT, Ri_rng1, Ri_rng2, Ri_seq, g1, cl_at (g0 T2) hr1, v_app]
              have := st T2 [vC c rest]
              refine ⟨by simp [lim]; omega, ?_⟩
              rw [thn_nx, Rs_nil]
              refine ⟨rfl, ?_, rfl⟩
              rw [show [D.d (.int (vC c rest : Nat))] = (nt [vC c rest]).map D.d from rfl, this]
              simp [WC, xr]
            · have c1 : ¬ (1 ≤ rest ∧ d / 2 % 2 = 1) := fun h => by have := of_decide_eq_false h2; omega
              rw [if_neg c1]
              simp
            · have c1 : ¬ (1 ≤ rest ∧ d / 2 % 2 = 1) := fun h => by have := of_decide_eq_false h1; omega
              rw [if_neg c1]
              simp
          · rintro fl e' s2 ⟨rfl, rfl, rfl⟩
            have hB : (if 1 ≤ rest ∧ d / 2 % 2 = 1 then [[rest]] else ([] : List (List Nat))).length ≤ 1 := by split <;> simp
            have hTB : (T2 ++ (if 1 ≤ rest ∧ d / 2 % 2 = 1 then [[rest]] else ([] : List (List Nat))).map (WC c)).length ≤ 4010 := by rw [List.length_append, List.length_map]; omega
            generalize T2 ++ (if 1 ≤ rest ∧ d / 2 % 2 = 1 then [[rest]] else ([] : List (List Nat))).map (WC c) = T3 at hTB
            rw [thn_nx, Rs_seq, Rs_if]
            simp only [Rs_nil, R_call, R_cons, R_nil, R_Var, R_C, R_bin, R_cmp, R_tcmp, R_tOr, R_tAnd, R_tNot, R_tVal, R_tTrue, R_ite, R_eAnd, R_eOr, R_eNot, R_neg, R_tup, R_isi, R_some, Rc_some, N.v_eq, N.v_ne, N.v_lt, N.v_le, N.v_gt, N.v_ge, N.v_add, N.v_sub, N.v_iadd, N.v_xor, N.v_int, N.tru_b, N.pd_d, N.data_nil, N.data_cons, N.len_t, N.v_tupT, N.g_name, N.isNone_n, N.isNone_t, N.isNone_i, N.v_isN, N.v_isNn, N.v_eqB, N.v_neB, List.set_cons_succ, List.set_cons_zero, List.getElem?_cons_succ, List.getElem?_cons_zero, Bool.not_true, Bool.not_false, Bool.false_eq_true, Bool.true_eq_false, eq_self, true_implies, false_implies, true_and, and_true, decide_true, decide_false, Int.zero_add, N.R_sl, N.R_it, R_oNone, R_oSome, wipeN, N.R_lst, N.R_mkF, N.R_mkT, N.R_meth, N.v_addT, Ri_rng1, Ri_rng2, Ri_seq, v_mod (j := 2) (by decide), v_div (j := 2) (by decide) (by decide), v_div (j := 4) (by decide) (by decide)]
            refine ⟨fun h1 => ⟨fun h2 => ?_, fun h2 => ?_⟩, fun h1 => ?_⟩
            · have c1 : 2 ≤ rest ∧ d / 4 = 1 := ⟨by have := of_decide_eq_true h1; omega, by have := of_decide_eq_true h2; omega⟩
              rw [if_pos c1, Rs_seq, Rs_expr, R_meth, R_Var]
              simp only [List.getElem?_cons_succ, List.getElem?_cons_zero, g1, R_cons]
              refine R_lcm (List.range (rest / 2)) (fun k => .d (.int ((1 : Int) + (k : Nat)))) (fun k => .int ((WC c [k + 1, rest - (k + 1)] : Nat) : Nat)) ?_ (fun k hk acc => ?_) (by simp [lim]; omega) ?_
              · simp only [Rs_nil, R_call, R_cons, R_nil, R_Var, R_C, R_bin, R_cmp, R_tcmp, R_tOr, R_tAnd, R_tNot, R_tVal, R_tTrue, R_ite, R_eAnd, R_eOr, R_eNot, R_neg, R_tup, R_isi, R_some, Rc_some, N.v_eq, N.v_ne, N.v_lt, N.v_le, N.v_gt, N.v_ge, N.v_add, N.v_sub, N.v_iadd, N.v_xor, N.v_int, N.tru_b, N.pd_d, N.data_nil, N.data_cons, N.len_t, N.v_tupT, N.g_name, N.isNone_n, N.isNone_t, N.isNone_i, N.v_isN, N.v_isNn, N.v_eqB, N.v_neB, List.set_cons_succ, List.set_cons_zero, List.getElem?_cons_succ, List.getElem?_cons_zero, Bool.not_true, Bool.not_false, Bool.false_eq_true, Bool.true_eq_false, eq_self, true_implies, false_implies, true_and, and_true, decide_true, decide_false, Int.zero_add, N.R_sl, N.R_it, R_oNone, R_oSome, wipeN, N.R_lst, N.R_mkF, N.R_mkT, N.R_meth, N.v_addT, Ri_rng1, Ri_rng2, Ri_seq, v_mod (j := 2) (by decide), v_div (j := 2) (by decide) (by decide), v_div (j := 4) (by decide) (by decide)]
                refine ⟨by omega, ?_⟩
                rw [show (((rest : Nat) : Int) / 2 + 1 - 1).toNat = rest / 2 by omega]
                rfl
              · have hk := rng_mem hk
                have ga : ∀ m : Nat, m < i → itF (s ++ [cl (valsC c i)] ++ [cl T3] ++ [Cell.lst acc]) (.r s.length) (.d (.int (m : Nat))) = some (.d (.int (vC c m : Nat))) := fun m hm => cl_at (by rw [List.getElem?_append_left (by simp)]; exact g0 T3) hm
                have e1 : (1 : Int) + (k : Nat) = ((k + 1 : Nat) : Int) := by omega
                have e2 : ((rest : Nat) : Int) - ((1 : Int) + (k : Nat)) = ((rest - (k + 1) : Nat) : Int) := by omega
                simp only [Rs_nil, R_call, R_cons, R_nil, R_Var, R_C, R_bin, R_cmp, R_tcmp, R_tOr, R_tAnd, R_tNot, R_tVal, R_tTrue, R_ite, R_eAnd, R_eOr, R_eNot, R_neg, R_tup, R_isi, R_some, Rc_some, N.v_eq, N.v_ne, N.v_lt, N.v_le, N.v_gt, N.v_ge, N.v_add, N.v_sub, N.v_iadd, N.v_xor, N.v_int, N.tru_b, N.pd_d, N.data_nil, N.data_cons, N.len_t, N.v_tupT, N.g_name, N.isNone_n, N.isNone_t, N.isNone_i, N.v_isN, N.v_isNn, N.v_eqB, N.v_neB, List.set_cons_succ, List.set_cons_zero, List.getElem?_cons_succ, List.getElem?_cons_zero, Bool.not_true, Bool.not_false, Bool.false_eq_true, Bool.true_eq_false, eq_self, true_implies, false_implies, true_and, and_true, decide_true, decide_false, Int.zero_add, N.R_sl, N.R_it, R_oNone, R_oSome, wipeN, N.R_lst, N.R_mkF, N.R_mkT, N.R_meth, N.v_addT, Ri_rng1, Ri_rng2, Ri_seq, e2]
                rw [e1, ga (k + 1) (by omega), Rc_some, ga (rest - (k + 1)) (by omega), Rc_some]
                simp only [Rs_nil, R_call, R_cons, R_nil, R_Var, R_C, R_bin, R_cmp, R_tcmp, R_tOr, R_tAnd, R_tNot, R_tVal, R_tTrue, R_ite, R_eAnd, R_eOr, R_eNot, R_neg, R_tup, R_isi, R_some, Rc_some, N.v_eq, N.v_ne, N.v_lt, N.v_le, N.v_gt, N.v_ge, N.v_add, N.v_sub, N.v_iadd, N.v_xor, N.v_int, N.tru_b, N.pd_d, N.data_nil, N.data_cons, N.len_t, N.v_tupT, N.g_name, N.isNone_n, N.isNone_t, N.isNone_i, N.v_isN, N.v_isNn, N.v_eqB, N.v_neB, List.set_cons_succ, List.set_cons_zero, List.getElem?_cons_succ, List.getElem?_cons_zero, Bool.not_true, Bool.not_false, Bool.false_eq_true, Bool.true_eq_false, eq_self, true_implies, false_implies, true_and, and_true, decide_true, decide_false, Int.zero_add, N.R_sl, N.R_it, R_oNone, R_oSome, wipeN, N.R_lst, N.R_mkF, N.R_mkT, N.R_meth, N.v_addT, Ri_rng1, Ri_rng2, Ri_seq, bitXor_nat]
                simp [WC, xr]
              · rw [R_nil]
                simp only [g1, v_extL]
                have := st T3 ((List.range (rest / 2)).map fun k => WC c [k + 1, rest - (k + 1)])
                refine ⟨by simp [lim]; omega, ?_⟩
                rw [thn_nx, Rs_nil, thn_nx, Rs_nil, aft_nx]
                rw [show ((List.range (rest / 2)).map fun k => PyData.int ((WC c [k + 1, rest - (k + 1)] : Nat) : Nat)) = nt ((List.range (rest / 2)).map fun k => WC c [k + 1, rest - (k + 1)]) by simp [nt], this, en]
                refine ⟨?_, by simp [wipeN]⟩
                rw [List.map_map]
                rfl
            · have c1 : ¬ (2 ≤ rest ∧ d / 4 = 1) := fun h => by have := of_decide_eq_false h2; omega
              rw [if_neg c1, thn_nx, Rs_nil, aft_nx, en, List.map_nil, List.append_nil]
              exact ⟨rfl, rfl⟩
            · have c1 : ¬ (2 ≤ rest ∧ d / 4 = 1) := fun h => by have := of_decide_eq_false h1; omega
              rw [if_neg c1, thn_nx, Rs_nil, aft_nx, en, List.map_nil, List.append_nil]
              exact ⟨rfl, rfl⟩
      · rw [if_neg hin, List.append_nil]
        have hneg : ((i : Nat) : Int) - (j : Nat) - 1 < 0 := by omega
        generalize ((i : Nat) : Int) - (j : Nat) - 1 = rest at hneg en
        have n0 : decide (rest = 0) = false := decide_eq_false (by omega)
        have n1 : decide ((1 : Int) ≤ rest) = false := decide_eq_false (by omega)
        have n2 : decide ((2 : Int) ≤ rest) = false := decide_eq_false (by omega)
        rw [Rs_if]
        simp only [Rs_nil, R_call, R_cons, R_nil, R_Var, R_C, R_bin, R_cmp, R_tcmp, R_tOr, R_tAnd, R_tNot, R_tVal, R_tTrue, R_ite, R_eAnd, R_eOr, R_eNot, R_neg, R_tup, R_isi, R_some, Rc_some, N.v_eq, N.v_ne, N.v_lt, N.v_le, N.v_gt, N.v_ge, N.v_add, N.v_sub, N.v_iadd, N.v_xor, N.v_int, N.tru_b, N.pd_d, N.data_nil, N.data_cons, N.len_t, N.v_tupT, N.g_name, N.isNone_n, N.isNone_t, N.isNone_i, N.v_isN, N.v_isNn, N.v_eqB, N.v_neB, List.set_cons_succ, List.set_cons_zero, List.getElem?_cons_succ, List.getElem?_cons_zero, Bool.not_true, Bool.not_false, Bool.false_eq_true, Bool.true_eq_false, eq_self, true_implies, false_implies, true_and, and_true, decide_true, decide_false, Int.zero_add, N.R_sl, N.R_it, R_oNone, R_oSome, wipeN, N.R_lst, N.R_mkF, N.R_mkT, N.R_meth, N.v_addT, Ri_rng1, Ri_rng2, Ri_seq, n0]
        rw [thn_nx, Rs_seq, Rs_if]
        simp only [Rs_nil, R_call, R_cons, R_nil, R_Var, R_C, R_bin, R_cmp, R_tcmp, R_tOr, R_tAnd, R_tNot, R_tVal, R_tTrue, R_ite, R_eAnd, R_eOr, R_eNot, R_neg, R_tup, R_isi, R_some, Rc_some, N.v_eq, N.v_ne, N.v_lt, N.v_le, N.v_gt, N.v_ge, N.v_add, N.v_sub, N.v_iadd, N.v_xor, N.v_int, N.tru_b, N.pd_d, N.data_nil, N.data_cons, N.len_t, N.v_tupT, N.g_name, N.isNone_n, N.isNone_t, N.isNone_i, N.v_isN, N.v_isNn, N.v_eqB, N.v_neB, List.set_cons_succ, List.set_cons_zero, List.getElem?_cons_succ, List.getElem?_cons_zero, Bool.not_true, Bool.not_false, Bool.false_eq_true, Bool.true_eq_false, eq_self, true_implies, false_implies, true_and, and_true, decide_true, decide_false, Int.zero_add, N.R_sl, N.R_it, R_oNone, R_oSome, wipeN, N.R_lst, N.R_mkF, N.R_mkT, N.R_meth, N.v_addT, Ri_rng1, Ri_rng2, Ri_seq, n1]
        rw [thn_nx, Rs_seq, Rs_if]
        simp only [Rs_nil, R_call, R_cons, R_nil, R_Var, R_C, R_bin, R_cmp, R_tcmp, R_tOr, R_tAnd, R_tNot, R_tVal, R_tTrue, R_ite, R_eAnd, R_eOr, R_eNot, R_neg, R_tup, R_isi, R_some, Rc_some, N.v_eq, N.v_ne, N.v_lt, N.v_le, N.v_gt, N.v_ge, N.v_add, N.v_sub, N.v_iadd, N.v_xor, N.v_int, N.tru_b, N.pd_d, N.data_nil, N.data_cons, N.len_t, N.v_tupT, N.g_name, N.isNone_n, N.isNone_t, N.isNone_i, N.v_isN, N.v_isNn, N.v_eqB, N.v_neB, List.set_cons_succ, List.set_cons_zero, List.getElem?_cons_succ, List.getElem?_cons_zero, Bool.not_true, Bool.not_false, Bool.false_eq_true, Bool.true_eq_false, eq_self, true_implies, false_implies, true_and, and_true, decide_true, decide_false, Int.zero_add, N.R_sl, N.R_it, R_oNone, R_oSome, wipeN, N.R_lst, N.R_mkF, N.R_mkT, N.R_meth, N.v_addT, Ri_rng1, Ri_rng2, Ri_seq, n2]
        rw [thn_nx, Rs_nil, aft_nx, en]
        exact ⟨rfl, rfl⟩
    · obtain ⟨rfl, rfl⟩ := hj
      rw [List.length_zipIdx, addCs_all, thn_nx, Rs_seq, Rs_expr, R_meth, R_Var]
      have g0 : (s ++ [cl (valsC c i)] ++ [cl ((rstC c i).map (WC c))])[s.length]? = some (.lst ((nt (valsC c i)).map .d)) := by simp [cl]
      have g1 : (s ++ [cl (valsC c i)] ++ [cl ((rstC c i).map (WC c))])[s.length + 1]? = some (cl ((rstC c i).map (WC c))) := by simp
      have hlr := addCs_len (c := c) (n := i) (by omega) c.length
      rw [addCs_all] at hlr
      have hlr2 : (rstC c i).length ≤ 4008 := by
        have : c.length * 501 ≤ 8 * 501 := Nat.mul_le_mul_right _ hcl
        omega
      simp only [List.getElem?_cons_succ, List.getElem?_cons_zero, g0, R_cons, R_call, R_Var, R_nil]
      refine R_missL (ns := (rstC c i).map (WC c)) (M := 4096) (j := s.length + 1) g1 (by simp [lim]; omega) (fun k hk => ?_) (by decide) fun k hk => ?_
      · obtain ⟨r, hr, rfl⟩ := List.mem_map.mp hk
        exact WC_lt hc (by omega) hr
      · have ek : k = vC c i := hk.uniq (vC_mex c i)
        subst ek
        simp only [g0, v_app]
        refine ⟨by simp [lim, valsC_len]; omega, ?_⟩
        have e5 : Cell.lst ((nt (valsC c i)).map D.d ++ [D.d (.int (vC c i : Nat))]) = cl (valsC c (i + 1)) := by rw [valsC_snoc]; simp [cl, nt]
        rw [e5, set_mid, thn_nx, Rs_nil, aft_nx, trimE_swap (a' := cl (valsC c (i + 1))) (lst_below _ _) ?_]
        · simp [wipeN]
        · intro a b hab
          match a, hab with
          | 2, h => simp [wipeN] at h; omega
          | 0, h => simp [wipeN] at h
          | 1, h => simp [wipeN] at h
          | 3, h => simp [wipeN] at h
          | 4, h => simp [wipeN] at h
          | 5, h => simp [wipeN] at h
          | 6, h => simp [wipeN] at h
          | 7, h => simp [wipeN] at h
          | 8, h => simp [wipeN] at h
          | n + 9, h => simp [wipeN] at h
  · obtain ⟨rfl, rfl⟩ := hi
    rw [List.length_range, thn_nx, Rs_seq, Rs_ret]
    simp only [Rs_nil, R_call, R_cons, R_nil, R_Var, R_C, R_bin, R_cmp, R_tcmp, R_tOr, R_tAnd, R_tNot, R_tVal, R_tTrue, R_ite, R_eAnd, R_eOr, R_eNot, R_neg, R_tup, R_isi, R_some, Rc_some, N.v_eq, N.v_ne, N.v_lt, N.v_le, N.v_gt, N.v_ge, N.v_add, N.v_sub, N.v_iadd, N.v_xor, N.v_int, N.tru_b, N.pd_d, N.data_nil, N.data_cons, N.len_t, N.v_tupT, N.g_name, N.isNone_n, N.isNone_t, N.isNone_i, N.v_isN, N.v_isNn, N.v_eqB, N.v_neB, List.set_cons_succ, List.set_cons_zero, List.getElem?_cons_succ, List.getElem?_cons_zero, Bool.not_true, Bool.not_false, Bool.false_eq_true, Bool.true_eq_false, eq_self, true_implies, false_implies, true_and, and_true, decide_true, decide_false, Int.zero_add, N.R_sl, N.R_it, R_oNone, R_oSome, wipeN, N.R_lst, N.R_mkF, N.R_mkT, N.R_meth, N.v_addT, Ri_rng1, Ri_rng2, Ri_seq]
    rw [v_tupR (xs := nt (valsC c (n + 1))) (by simp [cl]), R_some]
    simp
end N

namespace N
open PySem L2 PyProof.Rows

theorem so_eq {l m : List Nat} (h : l.Perm m) : so l = so m :=
  List.Perm.eq_of_pairwise (le := fun a b : Nat => a ≤ b) (fun a b _ _ h1 h2 => by omega) (so_sorted l) (so_sorted m) ((so_perm l).trans (h.trans (so_perm m).symm))
/-- what the walk over the heaps has met -/
structure FL (c hs : List Nat) (i : Nat) (met fine : Bool) : Prop where
  ok : fine = true → (∀ o, NewOf (rstC c) hs i o → sec (rstC c) true o = false) ∧ (met = true ↔ ∃ o, NewOf (rstC c) hs i o)
  no : fine = false → ∃ o ∈ opts (rstC c) hs, sec (rstC c) true o = true
theorem FL.val {c hs : List Nat} {met fine : Bool} (h : FL c hs hs.length met fine) : (met && fine) = sec (rstC c) true hs := by
  rw [sec_eq (rst := rstC c) (losing := true) (N := hs.sum) (fun n _ r hr => (rstC_sum hr).1) fun a ha => mem_le_sum ha]
  cases fine with
  | false =>
    obtain ⟨o, h1, h2⟩ := h.no rfl
    rw [if_neg (List.ne_nil_of_mem h1), Bool.and_false]
    symm
    rw [Bool.not_eq_false']
    exact List.any_eq_true.mpr ⟨o, h1, h2⟩
  | true =>
    obtain ⟨h1, h2⟩ := h.ok rfl
    rw [Bool.and_true]
    by_cases e : opts (rstC c) hs = []
    · rw [if_pos e]
      cases met with
      | false => rfl
      | true =>
        obtain ⟨o, ho⟩ := h2.mp rfl
        rw [newOf_all, e] at ho
        cases ho
    · rw [if_neg e]
      obtain ⟨o, ho⟩ := List.exists_mem_of_ne_nil _ e
      rw [h2.mpr ⟨o, newOf_all.mpr ho⟩]
      symm
      rw [Bool.not_eq_true', Bool.eq_false_iff]
      intro ha
      obtain ⟨o, h3, h4⟩ := List.any_eq_true.mp ha
      rw [h1 o (newOf_all.mpr h3)] at h4
      cases h4
theorem FL.skip {c hs : List Nat} {i : Nat} {met fine : Bool} (h : FL c hs i met fine) (e : fine = true → ∀ o, NewOf (rstC c) hs (i + 1) o ↔ NewOf (rstC c) hs i o) : FL c hs (i + 1) met fine := by
  refine ⟨fun hf => ?_, h.no⟩
  obtain ⟨h1, h2⟩ := h.ok hf
  exact ⟨fun o ho => h1 o ((e hf o).mp ho), h2.trans ⟨fun ⟨o, ho⟩ => ⟨o, (e hf o).mpr ho⟩, fun ⟨o, ho⟩ => ⟨o, (e hf o).mp ho⟩⟩⟩
theorem FL.stop {c hs : List Nat} {i : Nat} {met : Bool} {o : List Nat} (ho : o ∈ opts (rstC c) hs) (hs' : sec (rstC c) true o = true) : FL c hs i met false := ⟨fun h => (by cases h), fun _ => ⟨o, ho, hs'⟩⟩
theorem FL.go {c hs : List Nat} {i : Nat} {met : Bool} (h : FL c hs i met true) (hr : ∀ r ∈ lcD c (hs.getD i 0), sec (rstC c) true (plo hs i r) = false) : FL c hs (i + 1) (met || decide (0 < (lcD c (hs.getD i 0)).length)) true := by
  refine ⟨fun _ => ?_, fun h => (by cases h)⟩
  obtain ⟨h1, h2⟩ := h.ok rfl
  refine ⟨fun o ho => ?_, ?_⟩
  · rcases newOf_succ.mp ho with h | ⟨r, h, rfl⟩
    · exact h1 o h
    · exact hr r (mem_lcD.mpr h)
  · rw [Bool.or_eq_true, h2, decide_eq_true_eq]
    constructor
    · rintro (⟨o, ho⟩ | hp)
      · exact ⟨o, newOf_succ.mpr (.inl ho)⟩
      · obtain ⟨r, hr2⟩ := List.exists_mem_of_length_pos hp
        exact ⟨_, newOf_succ.mpr (.inr ⟨r, mem_lcD.mp hr2, rfl⟩)⟩
    · rintro ⟨o, ho⟩
      rcases newOf_succ.mp ho with h | ⟨r, h, rfl⟩
      · exact .inl ⟨o, h⟩
      · exact .inr (List.length_pos_of_mem (mem_lcD.mpr h))
end N

namespace N
open PySem L2 PyProof.Rows

end N

namespace N
open PySem L2 PyProof.Rows

end N

namespace N
open PySem L2 PyProof.Rows

end N

namespace N
open PySem L2 PyProof.Rows

end N

namespace N
open PySem L2 PyProof.Rows

section
variable {e : Lo} {s : Sto} {Q : D → Sto → Prop} {Qt : Bool → Sto → Prop}
@[simp] theorem R_chK (f g : Int → Int → Bool) (ma mb mc : ME) : R (chK f g ma mb mc e s) Qt ↔ R (ma e s) fun a s1 => match a with
  | .d (.int i) => R (mb e s1) fun b s2 => match b with
    | .d (.int j) => (f i j = true → R (mc e s2) fun c s3 => match c with
        | .d (.int k) => Qt (g j k) s3
        | _ => False) ∧ (f i j = false → Qt false s2)
    | _ => False
  | _ => False := by
  unfold chK
  rcases ma e s with _ | ⟨a, s1⟩
  · simp
  · rcases a with x | j
    · cases x <;> simp
      rename_i i
      rcases mb e s1 with _ | ⟨b, s2⟩
      · simp
      · rcases b with x | j
        · cases x <;> simp
          rename_i j
          cases hf : f i j
          · simp
          · simp
            rcases mc e s2 with _ | ⟨c, s3⟩
            · simp
            · rcases c with x | j
              · cases x <;> simp
              · simp
        · simp
    · simp
@[simp] theorem R_eCh (f g : Int → Int → Bool) (ma mb mc : ME) : R (eCh f g ma mb mc e s) Q ↔ R (chK f g ma mb mc e s) fun k s1 => Q (.d (.bool k)) s1 := by
  unfold eCh
  rcases chK f g ma mb mc e s with _ | ⟨k, s1⟩ <;> simp
end
/-- an integer within bounds -/
def isN (a b : Int) : PyData → Bool
  | .int i => decide (a ≤ i) && decide (i ≤ b)
  | _ => false
noncomputable def isCodeL (xs : List PyData) : Bool := decide (1 ≤ xs.length ∧ xs.length ≤ 8) && (xs.all (isN 0 7) && !decide (xs.getLast? = some (.int 0)))
noncomputable def isCodeP : PyData → Bool
  | .tuple xs => isCodeL xs
  | _ => false
theorem all_map {α : Type} {s : Sto} (f : α → Bool) (l : List α) : bAll s [.d (.list (l.map fun x => PyData.bool (f x)))] = some (.d (.bool (l.all f)), s) := by
  unfold bAll qL f1 asL
  simp only [List.map_map, bools_mapf]
  simp [Function.comp_def]
theorem itF_last {xs : List PyData} {x : PyData} {s : Sto} (h : xs.getLast? = some x) : itF s (.d (.tuple xs)) (.d (.int (-1))) = some (.d x) := by
  refine itF_t ?_
  unfold atI ixN
  rw [List.getLast?_eq_getElem?] at h
  have hl : xs.length - 1 < xs.length := (List.getElem?_eq_some_iff.mp h).1
  rw [if_neg (by omega), if_pos (by omega)]
  have e : (-1 + (xs.length : Int)).toNat = xs.length - 1 := by omega
  rw [e]
  exact h
end N

namespace N
open PySem L2 PyProof.Rows

end N

namespace N
open PySem L2 PyProof.Rows

/-- what a law asks of a code -/
noncomputable def dueE : ME := (eAnd (eIsi .tup (eVar 4)) (eAnd (eCh (fun i j => decide (i ≤ j)) (fun i j => decide (i ≤ j)) (eC (.int 1)) (eCall bLen (aCons (eVar 4) aNil)) (eC (.int 8))) (eAnd (eCall bAll (aCons (eLc false [5] (iSeq (eVar 4)) (gName 5) tTrue (eAnd (eIsi .int (eVar 5)) (eAnd (eNot (eIsi .bl (eVar 5))) (eCh (fun i j => decide (i ≤ j)) (fun i j => decide (i ≤ j)) (eC (.int 0)) (eVar 5) (eC (.int 7)))))) aNil)) (eCmp cNe (eIt (eVar 4) (eNeg (eC (.int 1)))) (eC (.int 0))))))
theorem R_isN {x : PyData} {e : Lo} {s : Sto} {Q : D → Sto → Prop} (h : e[5]? = some (some (.d x))) (a b : Int) (q : Q (.d (.bool (isN a b x))) s) : R (eAnd (eIsi .int (eVar 5)) (eAnd (eNot (eIsi .bl (eVar 5))) (eCh (fun i j => decide (i ≤ j)) (fun i j => decide (i ≤ j)) (eC (.int a)) (eVar 5) (eC (.int b)))) e s) Q := by
  simp only [Rs_nil, R_call, R_cons, R_nil, R_Var, R_C, R_bin, R_cmp, R_tcmp, R_tOr, R_tAnd, R_tNot, R_tVal, R_tTrue, R_ite, R_eAnd, R_eOr, R_eNot, R_neg, R_tup, R_isi, R_some, Rc_some, N.v_eq, N.v_ne, N.v_lt, N.v_le, N.v_gt, N.v_ge, N.v_add, N.v_sub, N.v_iadd, N.v_xor, N.v_int, N.tru_b, N.pd_d, N.data_nil, N.data_cons, N.len_t, N.v_tupT, N.g_name, N.isNone_n, N.isNone_t, N.isNone_i, N.v_isN, N.v_isNn, N.v_eqB, N.v_neB, List.set_cons_succ, List.set_cons_zero, List.getElem?_cons_succ, List.getElem?_cons_zero, Bool.not_true, Bool.not_false, Bool.false_eq_true, Bool.true_eq_false, eq_self, true_implies, false_implies, true_and, and_true, decide_true, decide_false, Int.zero_add, N.R_sl, N.R_it, R_oNone, R_oSome, wipeN, N.R_lst, N.R_mkF, N.R_mkT, N.R_meth, N.v_addT, Ri_rng1, Ri_rng2, Ri_seq, R_eCh, R_chK, h]
  cases x with
  | int i =>
    simp only [TyT.of, Z.isInt, Z.isBl, Rs_nil, R_call, R_cons, R_nil, R_Var, R_C, R_bin, R_cmp, R_tcmp, R_tOr, R_tAnd, R_tNot, R_tVal, R_tTrue, R_ite, R_eAnd, R_eOr, R_eNot, R_neg, R_tup, R_isi, R_some, Rc_some, N.v_eq, N.v_ne, N.v_lt, N.v_le, N.v_gt, N.v_ge, N.v_add, N.v_sub, N.v_iadd, N.v_xor, N.v_int, N.tru_b, N.pd_d, N.data_nil, N.data_cons, N.len_t, N.v_tupT, N.g_name, N.isNone_n, N.isNone_t, N.isNone_i, N.v_isN, N.v_isNn, N.v_eqB, N.v_neB, List.set_cons_succ, List.set_cons_zero, List.getElem?_cons_succ, List.getElem?_cons_zero, Bool.not_true, Bool.not_false, Bool.false_eq_true, Bool.true_eq_false, eq_self, true_implies, false_implies, true_and, and_true, decide_true, decide_false, Int.zero_add, N.R_sl, N.R_it, R_oNone, R_oSome, wipeN, N.R_lst, N.R_mkF, N.R_mkT, N.R_meth, N.v_addT, Ri_rng1, Ri_rng2, Ri_seq]
    refine ⟨fun h => ?_, fun h => ?_⟩
    · simpa [isN, h] using q
    · simpa [isN, h] using q
  | bool b => simpa [TyT.of, Z.isInt, Z.isBl, isN] using q
  | _ => simpa [TyT.of, Z.isInt, Z.isBl, isN] using q
theorem due_ok {x : PyData} {e : Lo} {s : Sto} {Q : D → Sto → Prop} (h : e[4]? = some (some (.d x))) (h5 : 5 < e.length) (q : Q (.d (.bool (isCodeP x))) s) : R (dueE e s) Q := by
  unfold dueE
  rw [R_eAnd, R_isi, R_Var, h]
  simp only [N.pd_d, Rc_some, N.tru_b]
  cases x with
  | tuple xs =>
    have hlen : R (chK (fun i j => decide (i ≤ j)) (fun i j => decide (i ≤ j)) (eC (.int 1)) (eCall bLen (aCons (eVar 4) aNil)) (eC (.int 8)) e s) (fun b s' => b = decide (1 ≤ xs.length ∧ xs.length ≤ 8) ∧ s' = s) := by
      simp only [Rs_nil, R_call, R_cons, R_nil, R_Var, R_C, R_bin, R_cmp, R_tcmp, R_tOr, R_tAnd, R_tNot, R_tVal, R_tTrue, R_ite, R_eAnd, R_eOr, R_eNot, R_neg, R_tup, R_isi, R_some, Rc_some, N.v_eq, N.v_ne, N.v_lt, N.v_le, N.v_gt, N.v_ge, N.v_add, N.v_sub, N.v_iadd, N.v_xor, N.v_int, N.tru_b, N.pd_d, N.data_nil, N.data_cons, N.len_t, N.v_tupT, N.g_name, N.isNone_n, N.isNone_t, N.isNone_i, N.v_isN, N.v_isNn, N.v_eqB, N.v_neB, List.set_cons_succ, List.set_cons_zero, List.getElem?_cons_succ, List.getElem?_cons_zero, Bool.not_true, Bool.not_false, Bool.false_eq_true, Bool.true_eq_false, eq_self, true_implies, false_implies, true_and, and_true, decide_true, decide_false, Int.zero_add, N.R_sl, N.R_it, R_oNone, R_oSome, wipeN, N.R_lst, N.R_mkF, N.R_mkT, N.R_meth, N.v_addT, Ri_rng1, Ri_rng2, Ri_seq, R_chK, h]
      refine ⟨fun h => ?_, fun h => ?_⟩
      · have h := of_decide_eq_true h
        rw [Bool.eq_iff_iff, decide_eq_true_eq, decide_eq_true_eq]
        omega
      · have h := of_decide_eq_false h
        rw [eq_comm, decide_eq_false_iff_not]
        omega
    obtain ⟨_, _, hlen, rfl, rfl⟩ := hlen
    simp only [TyT.of, Z.isTup, true_implies, Bool.true_eq_false, false_implies, and_true]
    rw [R_eAnd, R_eCh, hlen, R_some]
    simp only [N.tru_b, Rc_some]
    refine ⟨fun hl => ?_, fun hl => ?_⟩
    · have hx : xs.length ≤ 8 := (of_decide_eq_true hl).2
      simp only [R_eAnd, R_call, R_cons]
      refine R_lcm xs (fun x => .d x) (fun x => .bool (isN 0 7 x)) (by rw [Ri_seq, R_Var, h]; simp) (fun x hx acc => ?_) (by simp [lim]; omega) ?_
      · rw [g_name, Rc_some]
        exact R_isN (by simp [wipeN, h5]) 0 7 ⟨rfl, rfl⟩
      · simp only [R_nil, all_map, R_some, N.tru_b, Rc_some]
        refine ⟨fun ha => ?_, fun ha => ?_⟩
        · have hne : xs ≠ [] := fun e => by subst e; simp at hl
          have hm : xs.getLast hne ∈ xs := List.getLast_mem hne
          have hi := List.all_eq_true.mp ha _ hm
          have hg := List.getLast?_eq_some_getLast hne
          generalize xs.getLast hne = z at hi hg
          cases z with
          | int m =>
            simp only [Rs_nil, R_call, R_cons, R_nil, R_Var, R_C, R_bin, R_cmp, R_tcmp, R_tOr, R_tAnd, R_tNot, R_tVal, R_tTrue, R_ite, R_eAnd, R_eOr, R_eNot, R_neg, R_tup, R_isi, R_some, Rc_some, N.v_eq, N.v_ne, N.v_lt, N.v_le, N.v_gt, N.v_ge, N.v_add, N.v_sub, N.v_iadd, N.v_xor, N.v_int, N.tru_b, N.pd_d, N.data_nil, N.data_cons, N.len_t, N.v_tupT, N.g_name, N.isNone_n, N.isNone_t, N.isNone_i, N.v_isN, N.v_isNn, N.v_eqB, N.v_neB, List.set_cons_succ, List.set_cons_zero, List.getElem?_cons_succ, List.getElem?_cons_zero, Bool.not_true, Bool.not_false, Bool.false_eq_true, Bool.true_eq_false, eq_self, true_implies, false_implies, true_and, and_true, decide_true, decide_false, Int.zero_add, N.R_sl, N.R_it, R_oNone, R_oSome, wipeN, N.R_lst, N.R_mkF, N.R_mkT, N.R_meth, N.v_addT, Ri_rng1, Ri_rng2, Ri_seq, h, itF_last hg]
            simpa [isCodeP, isCodeL, hl, ha, hg] using q
          | _ => simp [isN] at hi
        · simpa [isCodeP, isCodeL, ha] using q
    · simpa [isCodeP, isCodeL, hl] using q
  | _ => simpa [TyT.of, Z.isTup, isCodeP] using q
end N

namespace N
open PySem L2 PyProof.Rows

end N

namespace N
open PySem L2 PyProof.Rows
open Z (Ext dpUp dpsUp dpsLen dpsGet DxO KyD DEn)
def isB (c : Bool) : D → Bool
  | .d (.bool b) => decide (b = c)
  | _ => false
def cIsB (neg : Bool) : FC := fun s a b => match b with
  | .d (.bool c) => some (if neg then !isB c a else isB c a)
  | _ => none
section
variable {s : Sto}
@[simp] theorem v_isB (a : D) (c : Bool) : cIsB false s a (.d (.bool c)) = some (isB c a) := rfl
@[simp] theorem v_isnB (a : D) (c : Bool) : cIsB true s a (.d (.bool c)) = some (!isB c a) := rfl
@[simp] theorem isB_b (b c : Bool) : isB c (.d (.bool b)) = decide (b = c) := rfl
end
end N

namespace N
open PySem L2 PyProof.Rows
open Z (Ext dpUp dpsUp dpsLen dpsGet DxO KyD DEn Dfn)
section
variable {P : Program} {w : World} {A : Around} {E : Value → Shared → Prop} {s : Shared}
open Z (set0)
end
section
variable {X : Cx} {e : Expr} {m : ME} {pos p p2 q : Pos}
end

section
variable {P : Program} {w : World} {A : Around} {E : Value → Shared → Prop} {s : Shared}
end
section
variable {X : Cx} {a b c : Expr} {ta tb tc : TE} {pos p : Pos}
variable {x y : Str} {pa pb pc pd px py : Pos} {ja jb : Nat}
end
end N

namespace N
open PySem L2 PyProof.Rows

def mis (l : List Nat) : Bool := if l.all (fun a => decide (a < 2)) = true then decide (l.sum % 2 = 1) else decide (xr l = 0)
def asc3 (x : Nat) : List Nat := if x < 2 then [0, 1] else [0, 1, x]
def put (hs : List Nat) (i k : Nat) : List Nat := hs.take i ++ [k] ++ hs.drop (i + 1)
/-- the sizes that may be left of the heap i by a move that wins -/
def good (hs : List Nat) (i : Nat) : List Nat := (asc3 (hs.getD i 0 ^^^ xr hs)).filter fun k => decide (k < hs.getD i 0) && mis (put hs i k)
end N

namespace N
open PySem L2 PyProof.Rows

theorem chk_app {s g : Sto} {j : Nat} {ds : List D} (h : s[j]? = some (.lst ds)) : chkOk (some (j, ds)) (s ++ g) := by
  unfold chkOk
  have hj : j < s.length := (List.getElem?_eq_some_iff.mp h).1
  simp only [List.getElem?_append_left hj, h]
theorem R_lcR {α : Type} (j : Nat) (l : List α) (enc : α → D) (f : α → PyData) (p : α → Bool) {vs : List Nat} {mi : MI} {g : MG} {mt : MT} {el : ME} {e : Lo} {s : Sto} {Q : D → Sto → Prop} (hi : Ri (mi e s) fun items ck s1 => items = l.map enc ∧ ck = some (j, l.map enc) ∧ s1 = s) (hj : s[j]? = some (.lst (l.map enc)))
    (h : ∀ x ∈ l, ∀ acc, Rc (g (enc x) (wipeN e vs)) fun e1 => R (mt e1 (s ++ [.lst acc])) fun b s2 => b = p x ∧ s2 = s ++ [.lst acc] ∧ (p x = true → R (el e1 (s ++ [.lst acc])) fun d s3 => d = .d (f x) ∧ s3 = s ++ [.lst acc])) (hl : l.length ≤ lim) (q : Q (.d (.list ((l.filter p).map f))) s) : R (eLc false vs mi g mt el e s) Q := by
  obtain ⟨_, _, s1, h1, rfl, rfl, h2⟩ := hi
  subst h2
  refine R.of ?_ q
  unfold eLc
  simp only [h1]
  rw [lcL_pure (fun x => .d (f x)) p rfl (fun _ => chk_app hj) l [] (fun x hx acc => ?_) (by simpa using hl)]
  · simp only [List.nil_append]
    have := lcFin_d s1 ((l.filter p).map f)
    rw [List.map_map] at this
    exact this
  · obtain ⟨e1, h2, b, s2, h3, rfl, rfl, h4⟩ := h x hx acc
    refine ⟨e1, h2, h3, fun hp => ?_⟩
    obtain ⟨_, _, h5, rfl, rfl⟩ := h4 hp
    exact h5
end N

namespace N
open PySem L2 PyProof.Rows

end N

namespace N
open PySem L2 PyProof.Rows
open Z (Ext dpUp dpsUp dpsLen dpsGet DxO KyD DEn Cl cut offv bl Dfn)

structure PrE where
  T : Addr
  b : Addr
  k : PyData
  v : V
def EntOk : List PrE → List DEn → Prop
  | [], [] => True
  | p :: ps, x :: xs => (x.1 = p.k ∧ x.2.1 = p.b ∧ RelV p.v x.2.2) ∧ EntOk ps xs
  | _, _ => False
theorem EntOk.len : ∀ {ps : List PrE} {xs : List DEn}, EntOk ps xs → xs.length = ps.length
  | [], [], _ => rfl
  | _ :: _, _ :: _, ⟨_, h⟩ => by rw [List.length_cons, List.length_cons, EntOk.len h]
  | [], _ :: _, h => h.elim
  | _ :: _, [], h => h.elim
theorem EntOk.mem : ∀ {ps : List PrE} {xs : List DEn}, EntOk ps xs → ∀ x ∈ xs, ∃ p ∈ ps, x.1 = p.k ∧ x.2.1 = p.b ∧ RelV p.v x.2.2
  | [], [], _, x, h => by cases h
  | p :: _, _ :: _, ⟨h1, h⟩, x, hx => by
    rcases List.mem_cons.mp hx with rfl | hx
    · exact ⟨p, List.mem_cons_self, h1⟩
    · obtain ⟨q, hq, r⟩ := EntOk.mem h x hx
      exact ⟨q, List.mem_cons_of_mem _ hq, r⟩
  | [], _ :: _, h, _, _ => h.elim
  | _ :: _, [], h, _, _ => h.elim
section
variable {X : Cx} {pins : List (Addr × Obj)} {σ : L2.St} {H : Hp} {s : Shared}
theorem ent_of (I : Inv X pins σ H s) : ∀ (ps : List PrE), (∀ p ∈ ps, SqT X.K H p.T [V.ref p.b, p.v]) → ∃ xs : List DEn, EntOk ps xs ∧ ∀ (j : Nat) (x : DEn), xs[j]? = some x → ∃ p, ps[j]? = some p ∧ s.heap.IsTuple p.T #[.ref x.2.1, x.2.2]
  | [], _ => ⟨[], trivial, fun j x h => by simp at h⟩
  | p :: ps, h => by
    obtain ⟨xs, h1, h2⟩ := ent_of I ps fun q hq => h q (List.mem_cons_of_mem _ hq)
    obtain ⟨its, rv, hl, _⟩ := I.tuple (h p List.mem_cons_self)
    cases rv with
    | cons r1 r2 =>
      cases r2 with
      | @cons _ u _ _ r2 r3 =>
        cases r3
        cases r1
        refine ⟨(p.k, p.b, u) :: xs, ⟨⟨rfl, rfl, r2⟩, h1⟩, fun j x hx => ?_⟩
        cases j with
        | zero =>
          rw [List.getElem?_cons_zero] at hx
          cases hx
          exact ⟨p, rfl, hl⟩
        | succ j =>
          rw [List.getElem?_cons_succ] at hx
          exact h2 j x hx
def rDictL (K : PySem.W.Frag) (P : Program) (w : World) : List V → Hp → VK → Prop := fun vs H Q => ∃ (l : Addr) (ps : List PrE), vs = [V.ref l] ∧ SqL K H l (ps.map fun p => V.ref p.T) ∧ (∀ p ∈ ps, SqT K H p.T [V.ref p.b, p.v] ∧ KyD K H p.b p.k) ∧
  ∀ (a : Addr) (xs : List DEn), EntOk ps xs → H a = none → Q (.ref a) (upd H a (DxO P w a (storedAllH [] xs)))
theorem cr_dictL (hc : X.calm = true) (hu : X.A.units + 20 < cLine) : CallR X (.type "dict") (rDictL X.K X.prog X.w) := by
  intro pins s σ H vs us Q I r h
  obtain ⟨l, ps, rfl, hl, hp, q⟩ := h
  rw [Vals.ref1 r]
  obtain ⟨its, rv, ⟨o, n, e1, e2, e3, e4⟩, hz⟩ := I.list hl
  obtain ⟨xs, hx, ht⟩ := ent_of I ps fun p m => (hp p m).1
  have ln : xs.length = ps.length := hx.len
  have li : its.length = ps.length := by rw [← Vals.length rv, List.length_map]
  have ky : ∀ {h' : Heap} {tk : Nat}, (∀ b o, s.heap.get? b = some o → h'.get? b = some o) → ∀ x ∈ xs, (Z.dkind X.prog X.w).is h' x.1 x.2.1 := fun {h' tk} k x m => by
    obtain ⟨p, hm, q1, q2, _⟩ := hx.mem x m
    have I1 : Inv X pins σ H { s with heap := h', toks := tk } := I.kept k
    rw [q1, q2]
    exact ⟨(hp p hm).2.2.2, Z.dp_at I1 _ _ _ (hp p hm).2.2.1 (hp p hm).2.1 rfl⟩
  refine call_dict_pairsH (knd := Z.dkind X.prog X.w) (ps := xs) (PairArg.list (prog := X.prog) (w := X.w) l its.toArray (fun j => match ps[j]? with | some p => p.T | none => 0) (xs.map fun x => (Value.ref x.2.1, x.2.2))) (I.ok.hd hc) (show X.A.units + 1 + 1 + 10 < cLine by omega) ⟨⟨o, n, e1, e2, e3, e4⟩, ?_, fun j k v hj => ?_⟩ ⟨by rw [List.length_map], fun i key v hr => ?_⟩ (fun h' hk x m => ky (tk := s.toks) (fun b u e => hk b u (Nat.ne_of_lt (Heap.lt_size e)) (fun z => nomatch z) e) x m) (by rw [List.length_map, ln]; rwa [List.length_map] at hz) fun h' tk hd hk => ?_
  · rw [List.size_toArray, List.length_map]
    omega
  · rw [List.getElem?_map] at hj
    cases hxj : xs[j]? with
    | none => rw [hxj] at hj; cases hj
    | some x =>
      rw [hxj] at hj
      cases hj
      obtain ⟨p, h1, h2⟩ := ht j x hxj
      simp only [h1]
      refine ⟨?_, .inl h2⟩
      obtain ⟨u, hu1, hu2⟩ := Vals.get rv (i := j) (x := V.ref p.T) (by rw [List.getElem?_map, h1]; rfl)
      cases hu2
      simpa using hu1
  · have hr : (xs.map fun x => (Value.ref x.2.1, x.2.2))[i]? = some (key, v) := hr
    rw [List.getElem?_map] at hr
    cases hxj : xs[i]? with
    | none => rw [hxj] at hr; cases hr
    | some x =>
      rw [hxj] at hr
      cases hr
      exact ⟨x.1, x.2.1, rfl, rfl⟩
  · obtain ⟨o2, es, ep, g1, g2, g3, g4, _, g6⟩ := hd
    have lt : (storedAllH [] xs).length ≤ sizeLine := by
      have := storedAllH_length xs []
      rw [List.length_map] at hz
      simp only [List.length_nil] at this
      omega
    exact ⟨.ref _, upd H s.heap.objs.size (DxO X.prog X.w s.heap.objs.size (storedAllH [] xs)), I.laid (t' := tk) (fun b u e => hk b u (fun z => nomatch z) e) (Nat.le_refl _) (Z.dx_new lt (beq_eq_false_iff_ne.mpr (Nat.ne_of_gt I.big)) ⟨o2, es, ep, g1, g2, g3, g4, g6⟩), rfl, q _ xs hx (I.hok.fresh (Nat.le_refl _))⟩
end

/-- rows of pairs -/
def prsOf : List D → Option (List (PyData × PyData))
  | [] => some []
  | .d (.tuple [k, v]) :: r => match prsOf r with
    | some xs => some ((k, v) :: xs)
    | none => none
  | _ => none
theorem prs_map (xs : List (PyData × PyData)) : prsOf (xs.map fun p => .d (.tuple [p.1, p.2])) = some xs := by
  induction xs with
  | nil => rfl
  | cons x xs ih => rw [List.map_cons]; unfold prsOf; rw [ih]
noncomputable def dPutAll (kvs : List (PyData × D)) (ps : List (PyData × PyData)) : List (PyData × D) := ps.foldl (fun acc p => dPut acc p.1 (.d p.2)) kvs
noncomputable def bDictL : FA := fun s ds => match ds with
  | [d] => match asL s d with
    | some ds => match prsOf ds with
      | some ps => if ps.all fun p => isKey p.1 then some (.r s.length, s ++ [.dic (dPutAll [] ps)]) else none
      | none => none
    | none => none
  | _ => none
section
variable {X : Cx} {B : Ba} {w : W} {H : Hp}
def PrOk (B : Ba) (w : W) : List PrE → List (PyData × PyData) → Prop
  | [], [] => True
  | p :: ps, k :: ks => (p.k = k.1 ∧ SqT B.K w.F p.T [V.ref p.b, p.v] ∧ KyD B.K w.F p.b p.k ∧ VR B w p.v (.d k.2)) ∧ PrOk B w ps ks
  | _, _ => False
theorem PrOk.mem : ∀ {ps : List PrE} {ks : List (PyData × PyData)}, PrOk B w ps ks → ∀ p ∈ ps, SqT B.K w.F p.T [V.ref p.b, p.v] ∧ KyD B.K w.F p.b p.k
  | [], [], _, p, h => by cases h
  | q :: _, _ :: _, ⟨h1, h⟩, p, hp => by
    rcases List.mem_cons.mp hp with rfl | hp
    · exact ⟨h1.2.1, h1.2.2.1⟩
    · exact PrOk.mem h p hp
  | [], _ :: _, h, _, _ => h.elim
  | _ :: _, [], h, _, _ => h.elim
theorem pr_of : ∀ {ds : List D} {vs : List V} {ks : List (PyData × PyData)}, VRs B w vs ds → prsOf ds = some ks → (ks.all fun p => isKey p.1) = true → ∃ ps, PrOk B w ps ks ∧ vs = ps.map fun p => V.ref p.T
  | [], [], ks, _, h, _ => by cases h; exact ⟨[], trivial, rfl⟩
  | d :: ds, v :: vs, ks, ⟨hv, hr⟩, h, ha => by
    unfold prsOf at h
    split at h
    · rename_i h0; cases h0
    · rename_i k x r h0
      injection h0 with e1 e2
      subst e1 e2
      split at h
      · rename_i xs e
        cases h
        rw [List.all_cons, Bool.and_eq_true] at ha
        obtain ⟨ps, h1, h2⟩ := pr_of hr e ha.2
        have hv' : Dp B.K w.F v (.tuple [k, x]) := hv
        obtain ⟨T, us, rfl, hs, hd⟩ := dp_tup hv'
        cases hd with
        | cons d1 d2 =>
          cases d2 with
          | cons d2 d3 =>
            cases d3
            obtain ⟨b, rfl, kb⟩ := key_ok (B := B) (w := w) ha.1 d1
            exact ⟨⟨T, b, k, _⟩ :: ps, ⟨⟨rfl, hs, kb, d2⟩, h1⟩, by rw [h2]; rfl⟩
      · cases h
    · cases h
  | [], _ :: _, _, h, _, _ => h.elim
  | _ :: _, [], _, h, _, _ => h.elim
theorem DR.putAll : ∀ {ps : List PrE} {ks : List (PyData × PyData)} {xs : List DEn}, PrOk B w ps ks → EntOk ps xs → ∀ {ys : List DEn} {kvs : List (PyData × D)}, DR B w ys kvs → DR B w (storedAllH ys xs) (dPutAll kvs ks)
  | [], [], [], _, _, _, _, h => h
  | p :: ps, k :: ks, x :: xs, ⟨⟨a1, _, a3, a4⟩, a5⟩, ⟨⟨b1, b2, b3⟩, b4⟩, ys, kvs, h => by
    unfold storedAllH dPutAll
    rw [List.foldl_cons, List.foldl_cons]
    refine DR.putAll a5 b4 ?_
    rw [b1, b2, ← a1]
    exact h.put a3 b3 a4
  | [], _ :: _, _, h, _, _, _, _ => h.elim
  | _ :: _, [], _, h, _, _, _, _ => h.elim
  | [], [], _ :: _, _, h, _, _, _ => h.elim
  | _ :: _, _ :: _, [], _, h, _, _, _ => h.elim
theorem b_dictL (hc : X.calm = true) (hu : X.A.units + 64 < cLine) : CalS X (.type "dict") bDictL := fun s ds z s' e => by
  unfold bDictL at e
  split at e
  · rename_i d
    split at e
    · rename_i ds e1
      split at e
      · rename_i ks e2
        split at e
        · rename_i hk
          cases e
          refine ⟨_, cr_dictL hc (by omega), fun us w H Q G hv k => ?_⟩
          obtain ⟨v, rfl, hv1⟩ := vrs1 hv
          obtain ⟨p, vs, rfl, h1, h2⟩ := asL_ok e1 G hv1
          obtain ⟨ps, q1, rfl⟩ := pr_of h2 e2 hk
          refine ⟨p, ps, rfl, h1, fun p m => ⟨G.ext.t (q1.mem p m).1, dpUp G.ext _ _ (q1.mem p m).2.1, (q1.mem p m).2.2⟩, fun a xs hx ha => ?_⟩
          exact k _ _ _ Ok.new_le (G.new ha ⟨ext_none G.ext ha, _, upd_same, (DR.putAll q1 hx (show DR (ba X) w [] [] from trivial)).up Ok.new_le⟩) G.new_at
        · cases e
      · cases e
    · cases e
  · cases e
end

section
variable {X : Cx} {pins : List (Addr × Obj)} {σ : L2.St} {H : Hp} {s : Shared}
def rSortK : List V → Hp → VK → Prop := fun vs H Q => ∃ (a : Addr) (kvs : List (Key × V)) (ns : List Int), vs = [V.ref a] ∧ H a = some (.dK kvs) ∧ kvs.map (·.1) = ns.map Sum.inl ∧
  ∀ (p : Addr) (ms : List Int), ms.map PyData.int = Z.srt (ns.map PyData.int) → H p = none → Q (.ref p) (upd H p (.lst (ms.map V.int)))
theorem cr_sortK (hc : X.calm = true) (hu : X.A.units + 64 < cLine) : CallR X (.builtin "sorted") rSortK := by
  intro pins s σ H vs us Q I r h
  obtain ⟨a, kvs, ns, rfl, ha, hn, q⟩ := h
  rw [Vals.ref1 r]
  obtain ⟨z, lo, vs, rk, hd⟩ := (show ObjOk X.prog X.w H s.heap a (.dK kvs) from I.hok a _ ha)
  obtain ⟨ep, hat⟩ := hd.dictAt
  have hl : kvs.length = vs.length := Paired.length rk
  have ln : ns.length = kvs.length := by have := congrArg List.length hn; rw [List.length_map, List.length_map] at this; exact this.symm
  refine Calls.call_function_entry PyProof.Rows.kind_sorted PyProof.Rows.plain_sorted PyProof.Rows.entry_sorted (PyProof.Rows.args_sorted1 _) ?_
  unfold Builtin.«sorted»
  refine wpAny_bind (m := checkCount "sorted" 1 1 _) (wpAny_pure ?_)
  refine wpAny_bind (PySem.W.kdu_collect (A := X.A.in1) (PySem.W.kdl_dict (knd := mixKind X.prog X.w) (kvs := vs) (ep := ep) lo) (I.ok.hd hc) hat (by rw [← hl]; exact z) fun h' tk acc kp hacc => ?_)
  have I1 : Inv X pins σ H { s with heap := h', toks := tk } := I.kept kp
  have la : acc.toList.length = ns.length := by rw [Array.length_toList, hacc.1, ln, hl]
  have rv : Vals (ns.map V.int) acc.toList := by
    refine vals_of_at (by rw [List.length_map, la]) fun j x w h1 h2 => ?_
    obtain ⟨k, y, hky, hi⟩ := hacc.2 j w (by rw [← Array.getElem?_toList]; exact h2)
    have e1 : (kvs.map (·.1))[j]? = some k := by
      rw [KV.keys rk, List.getElem?_map, hky] <;> rfl
    rw [hn, List.getElem?_map] at e1
    rw [List.getElem?_map] at h1
    cases hnj : ns[j]? with
    | none => rw [hnj] at h1; cases h1
    | some i =>
      rw [hnj] at h1 e1
      cases h1
      cases e1
      have hi2 : keyIs (Sum.inl i) w = true := hi
      exact keyIs_rel hi2
  have hlen : (ns.map V.int).length = (ns.map PyData.int).length := by rw [List.length_map, List.length_map]
  have e := Z.vals_zip (ds := ns.map PyData.int) hlen rv
  have hsnd : ((ns.map V.int).zip (ns.map PyData.int)).map (fun z => z.2) = ns.map PyData.int := Z.snd_zip hlen
  have lA : acc.toList.length ≤ sizeLine := by rw [la, ln]; exact z
  refine wpAny_bind (wpAny_newList ?_ lA)
  have at0 : (h'.push (seqObj "list" acc.toList.toArray 0)).get? h'.objs.size = some (seqObj "list" acc.toList.toArray 0) := Heap.get?_push_size _ rfl
  have er : PySem.W.EachIs (fun u (z : V × PyData) => ∃ as, Reads (h'.push (seqObj "list" acc.toList.toArray 0)) u z.2 as ∧ h'.objs.size ∉ as) acc.toList ((ns.map V.int).zip (ns.map PyData.int)) := Z.each_imp e fun u z hm hr => by
    have hz : ∃ i, z = (V.int i, PyData.int i) := by
      have hm' := hm
      rw [List.zip_map'] at hm'
      obtain ⟨i, _, hi⟩ := List.mem_map.mp hm'
      exact ⟨i, hi.symm⟩
    obtain ⟨i, rfl⟩ := hz
    obtain ⟨t, rfl⟩ := hr
    exact ⟨[], .int i t, by simp⟩
  have hlz : ((ns.map V.int).zip (ns.map PyData.int)).length = ns.length := by
    have h1 := congrArg List.length hsnd
    rwa [List.length_map, List.length_map] at h1
  have ho := (srtOk_ints (xs := ns.map PyData.int) (ns := ns) (by rw [List.map_map]; exact ints_map ns)).1
  refine wpAny_bind (wpAny_holding (Z.listSortX (s := { s with heap := h'.push (seqObj "list" acc.toList.toArray 0), toks := tk }) (R := fun u (z : V × PyData) => RelV z.1 u) (enc := fun z : V × PyData => z.2) at0 e er (by rw [hsnd]; exact ho.al) (by rw [hsnd]; exact ho.so) (by rw [hlz, ln]; exact z) (fun z hm => by
      have := ho.dp z.2 (by rw [← hsnd]; exact List.mem_map.mpr ⟨z, hm, rfl⟩)
      show X.A.units + 1 + 1 + z.2.depth < cLine
      omega) fun out ho2 eo => ?_))
  obtain ⟨ep2, he'⟩ := PyProof.Rows.sortedHeap_at (vs := acc.toList) (out := out.toArray) at0
  have hz2 : ∃ ms : List Int, ((ns.map V.int).zip (ns.map PyData.int)).mergeSort (PySem.W.dataLe false fun z => z.2) = ms.map fun i => (V.int i, PyData.int i) := by
    refine ⟨(((ns.map V.int).zip (ns.map PyData.int)).mergeSort (PySem.W.dataLe false fun z => z.2)).map fun z => match z.1 with | .int i => i | _ => 0, ?_⟩
    rw [List.map_map]
    symm
    refine (List.map_congr_left fun z hm => ?_).trans (List.map_id _)
    have hm' := (List.mergeSort_perm _ _).mem_iff.mp hm
    rw [List.zip_map'] at hm'
    obtain ⟨i, _, rfl⟩ := List.mem_map.mp hm'
    rfl
  obtain ⟨ms, hms⟩ := hz2
  have h2 : ms.map PyData.int = Z.srt (ns.map PyData.int) := by
    have h3 := List.map_mergeSort (r := PySem.W.dataLe false fun z : V × PyData => z.2) (s := PySem.W.dataLe false id) (f := fun z : V × PyData => z.2) (l := (ns.map V.int).zip (ns.map PyData.int)) (fun _ _ _ _ => rfl)
    rw [hsnd, hms, List.map_map] at h3
    exact h3
  have h4 : ms.length = ns.length := by
    have := congrArg List.length hms
    rw [List.length_mergeSort, hlz, List.length_map] at this
    exact this.symm
  refine wpAny_pure ⟨_, rfl, .ref h'.objs.size, upd H h'.objs.size (.lst (ms.map V.int)), I1.laid (t' := tk) (fun b u e => ?_) (Nat.le_refl _) (show ObjOk X.prog X.w _ _ _ (.lst _) from ⟨by rw [List.length_map, h4, ln]; exact z, out, ep2, ?_, he'⟩), rfl, q _ ms h2 (I1.hok.fresh (Nat.le_refl _))⟩
  · have hb : b < h'.objs.size := Heap.lt_size e
    rw [PyProof.Rows.sortedHeap_old (Nat.ne_of_lt hb) (by rw [size_push']; exact Nat.lt_succ_of_lt hb)]
    exact Heap.get?_push_of_some _ e
  · have := Z.zip_vals eo
    rw [hms, List.map_map] at this
    exact this
end
/-- the keys, all numbers -/
def intKs : List (Key × D) → Option (List Int)
  | [] => some []
  | (.inl i, _) :: r => match intKs r with
    | some xs => some (i :: xs)
    | none => none
  | _ => none
theorem intKs_eq : ∀ {kvs : List (Key × D)} {ns : List Int}, intKs kvs = some ns → kvs.map (·.1) = ns.map Sum.inl
  | [], ns, h => by cases h; rfl
  | (.inl i, d) :: r, ns, h => by
    unfold intKs at h
    split at h
    · rename_i xs e
      cases h
      rw [List.map_cons, intKs_eq e]; rfl
    · cases h
  | (.inr _, _) :: _, _, h => by cases h
theorem KR.keys {B : Ba} {w : W} : ∀ {xs : List (Key × V)} {kvs : List (Key × D)}, KR B w xs kvs → xs.map (·.1) = kvs.map (·.1)
  | [], [], _ => rfl
  | e :: xs, kv :: kvs, ⟨h1, h2⟩ => by rw [List.map_cons, List.map_cons, h1.1, KR.keys h2]
  | [], _ :: _, h => h.elim
  | _ :: _, [], h => h.elim
def bSortK (own : Bool) : FA := fun s ds => match ds with
  | [.r j] => match s[j]? with
    | some (.dk kvs) => match intKs kvs with
      | some ns => mkL own s ((Z.srt (ns.map PyData.int)).map .d)
      | none => none
    | _ => none
  | _ => none
section
variable {X : Cx}
theorem b_sortK (hc : X.calm = true) (hu : X.A.units + 64 < cLine) {own : Bool} : CalS X (.builtin "sorted") (bSortK own) := fun s ds z s' e => by
  unfold bSortK at e
  split at e
  · rename_i j
    split at e
    · rename_i kvs e1
      split at e
      · rename_i ns e2
        refine ⟨_, cr_sortK hc hu, fun us w H Q G hv k => ?_⟩
        obtain ⟨v, rfl, a, hr, rfl⟩ := vrs1 hv
        obtain ⟨_, xs, h1, h2⟩ := G.ce j _ a e1 hr
        refine ⟨a, xs, ns, rfl, h1, by rw [h2.keys]; exact intKs_eq e2, fun p ms hm hp => ?_⟩
        rw [← hm] at e
        have hd : VRs (ba X) w (ms.map V.int) ((ms.map PyData.int).map .d) := by
          rw [VRs.data]
          clear hm e
          induction ms with
          | nil => exact .nil
          | cons i ms ih => exact .cons (.int i) ih
        obtain ⟨w', l', g', v'⟩ := mkL_ok e G hp hd
        exact k _ w' _ l' g' v'
      · cases e
    · cases e
  · cases e
/-- sorted of a dict of either kind -/
noncomputable def bSortDD (own : Bool) : FA := fun s ds => match bSortD own s ds with
  | some r => some r
  | none => bSortK own s ds
theorem b_sortDD (hc : X.calm = true) (hu : X.A.units + 64 < cLine) {own : Bool} : CalS X (.builtin "sorted") (bSortDD own) := fun s ds z s' e => by
  unfold bSortDD at e
  split at e
  · rename_i r e1
    cases e
    exact b_sortD hc hu _ _ _ _ e1
  · exact b_sortK hc hu _ _ _ _ e
end

section
variable {X : Cx} {pins : List (Addr × Obj)} {σ : L2.St} {H : Hp} {s : Shared}
end
/-- rows of pairs, keys numbers and texts -/
def kprs : List D → Option (List (Key × PyData))
  | [] => some []
  | .d (.tuple [k, v]) :: r => match keyOf k, kprs r with
    | some kk, some xs => some ((kk, v) :: xs)
    | _, _ => none
  | _ => none
def kPutAll (kvs : List (Key × D)) (ps : List (Key × PyData)) : List (Key × D) := ps.foldl (fun acc p => kPut acc p.1 (.d p.2)) kvs
section
variable {X : Cx} {B : Ba} {w : W} {H : Hp}
theorem kpr_of : ∀ {ds : List D} {vs : List V} {ks : List (Key × PyData)}, VRs B w vs ds → kprs ds = some ks → ∃ (ps : List Addr) (kvs : List (Key × V)), vs = ps.map V.ref ∧ Paired (fun p kv => SqT B.K w.F p [kV kv.1, kv.2]) ps kvs ∧ KR B w kvs (ks.map fun p => (p.1, D.d p.2))
  | [], [], ks, _, h => by cases h; exact ⟨[], [], rfl, .nil, trivial⟩
  | d :: ds, v :: vs, ks, ⟨hv, hr⟩, h => by
    unfold kprs at h
    split at h
    · rename_i h0; cases h0
    · rename_i k x r h0
      injection h0 with e1 e2
      subst e1 e2
      split at h
      · rename_i kk xs ek e
        cases h
        obtain ⟨ps, kvs, h1, h2, h3⟩ := kpr_of hr e
        have hv' : Dp B.K w.F v (.tuple [k, x]) := hv
        obtain ⟨T, us, rfl, hs, hd⟩ := dp_tup hv'
        cases hd with
        | cons d1 d2 =>
          cases d2 with
          | @cons v2 _ _ _ d2 d3 =>
            cases d3
            have hk := keyOf_ok (B := B) (w := w) ek d1
            subst hk
            exact ⟨T :: ps, (kk, v2) :: kvs, by rw [h1]; rfl, .cons hs h2, ⟨rfl, d2⟩, h3⟩
      · cases h
    · cases h
  | [], _ :: _, _, h, _ => h.elim
  | _ :: _, [], _, h, _ => h.elim
theorem KR.putAll : ∀ {ks : List (Key × PyData)} {vk : List (Key × V)}, KR B w vk (ks.map fun p => (p.1, D.d p.2)) → ∀ {xs : List (Key × V)} {kvs : List (Key × D)}, KR B w xs kvs → KR B w (mergeK xs vk) (kPutAll kvs ks)
  | [], [], _, _, _, h => h
  | k :: ks, e :: vk, ⟨⟨h1, h2⟩, h3⟩, xs, kvs, h => by
    unfold mergeK kPutAll
    rw [List.foldl_cons, List.foldl_cons]
    refine KR.putAll h3 ?_
    rw [h1]
    exact h.put h2
  | [], _ :: _, h, _, _, _ => h.elim
  | _ :: _, [], h, _, _, _ => h.elim
def bDictK : FA := fun s ds => match ds with
  | [d] => match asL s d with
    | some ds => match kprs ds with
      | some ps => some (.r s.length, s ++ [.dk (kPutAll [] ps)])
      | none => none
    | none => none
  | _ => none
theorem paired_mono {α β : Type} {R S : α → β → Prop} (h : ∀ a b, R a b → S a b) : ∀ {l : List α} {m : List β}, Paired R l m → Paired S l m
  | _, _, .nil => .nil
  | _, _, .cons a b => .cons (h _ _ a) (paired_mono h b)
theorem b_dictK (hc : X.calm = true) : CalS X (.type "dict") bDictK := fun s ds z s' e => by
  unfold bDictK at e
  split at e
  · rename_i d
    split at e
    · rename_i ds e1
      split at e
      · rename_i ks e2
        cases e
        refine ⟨_, call_dictP hc, fun us w H Q G hv k => ?_⟩
        obtain ⟨v, rfl, hv1⟩ := vrs1 hv
        obtain ⟨p, vs, rfl, h1, h2⟩ := asL_ok e1 G hv1
        obtain ⟨ps, kvs, rfl, q1, q2⟩ := kpr_of h2 e2
        refine ⟨p, ps, kvs, rfl, h1, paired_mono (fun _ _ h => G.ext.t h) q1, fun a ha => ?_⟩
        exact k _ _ _ Ok.new_le (G.new ha ⟨ext_none G.ext ha, _, upd_same, (KR.putAll q2 (show KR (ba X) w [] [] from trivial)).up Ok.new_le⟩) G.new_at
      · cases e
    · cases e
  · cases e
noncomputable def bDictA : FA := fun s ds => match bDictK s ds with
  | some r => some r
  | none => bDictL s ds
theorem b_dictA (hc : X.calm = true) (hu : X.A.units + 64 < cLine) : CalS X (.type "dict") bDictA := fun s ds z s' e => by
  unfold bDictA at e
  split at e
  · rename_i r e1
    cases e
    exact b_dictK hc _ _ _ _ e1
  · exact b_dictL hc hu _ _ _ _ e
variable {ex a : Expr} {es : List Expr} {ma me : ME} {pos : Pos}
end
end N

namespace N
open PySem L2 PyProof.Rows
open Z (Ext dpUp dpsUp dpsLen dpsGet DxO KyD DEn Cl cut offv bl Dfn)

section
variable {X : Cx} {pins : List (Addr × Obj)} {σ : L2.St} {H : Hp} {s : Shared}
end

section
variable {K : PySem.W.Frag} {F : Hp} {a : Addr} {o : Obj} {φ : Heap → Prop}
end
section
variable {B : Ba} {w : W} {s : Sto} {H : Hp} {a : Addr} {o : Obj} {φ : Heap → Prop}
end
section
variable {X : Cx} {ex a b c tg iter elt : Expr} {es ifs elts : List Expr} {st : Stmt} {body : List Stmt} {m ma mb : ME} {M : MS} {pos p : Pos}
end
end N

namespace Z
open PySem L2 PyProof.Rows

section
variable {P : Program} {w : World} {A : Around} {E : Value → Shared → Prop} {s : Shared}
end
section
variable {X : Cx} {pins : List (Addr × Obj)} {σ : L2.St} {H : Hp} {s : Shared}
end
end Z
namespace N
open PySem L2 PyProof.Rows
open Z (Ext dpUp dpsUp dpsLen dpsGet DxO KyD DEn Cl cut offv bl Dfn)
section
variable {X : Cx} {ex a b c tg iter tg1 iter1 elt e : Expr} {es : List Expr} {m ma mb mc : ME} {pos p q p2 tpos : Pos}
end

section
variable {X : Cx} {tg : Expr}
variable {a b : Expr} {ms : MA} {p pos : Pos}
end
end N

namespace N
open PySem L2 PyProof.Rows
open Z (Ext dpUp dpsUp dpsLen dpsGet DxO KyD DEn Cl cut offv bl Dfn)

abbrev MPP := Lo → Sto → Option (List (Key × D) × Sto)
section
variable {X : Cx} {pos : Pos} {keys : List (Option Expr)} {values : List Expr} {k v : Expr} {m mv : ME} {mr : MPP}
end
end N

namespace N
open PySem L2 PyProof.Rows
open Z (Ext dpUp dpsUp dpsLen dpsGet DxO KyD DEn Cl cut offv bl Dfn)

mutual
theorem reads_k {h : Heap} : ∀ (d : PyData) (v : Value) (as : List Addr), Z.kOK d = true → Reads h v d as → as = []
  | .int _, _, _, _, r => by cases r; rfl
  | .str _, _, _, _, r => by cases r; rfl
  | .tuple ds, _, _, k, r => by
    cases r
    rename_i h4
    exact reads_ks ds _ _ (by rw [Z.kOK] at k; exact k) h4
  | .none, _, _, k, _ => by cases k
  | .bool _, _, _, k, _ => by cases k
  | .list _, _, _, k, _ => by cases k
  | .dict _, _, _, k, _ => by cases k
theorem reads_ks {h : Heap} : ∀ (ds : List PyData) (vs : List Value) (as : List Addr), Z.kOKs ds = true → ReadsAll h vs ds as → as = []
  | [], _, _, _, r => by cases r; rfl
  | d :: ds, _, _, k, r => by
    rw [Z.kOKs, Bool.and_eq_true] at k
    cases r
    rename_i r1 r2
    rw [reads_k d _ _ k.1 r1, reads_ks ds _ _ k.2 r2]
    rfl
end
section
variable {X : Cx} {pins : List (Addr × Obj)} {σ : L2.St} {H : Hp} {s : Shared}
def rSrtU (K : PySem.W.Frag) (u : Nat) : List V → Hp → VK → Prop := fun vs H Q => ∃ a F xs ds, vs = [V.ref a] ∧ SqT K H a xs ∧ Ext F H ∧ DpAll K F xs ds ∧ PySem.W.AllAlike ds ∧ Z.SrtK ds ∧ (∀ d ∈ ds, u + 2 + d.depth < cLine) ∧ (∀ d ∈ ds, Z.kOK d = true) ∧
  ∀ p ys, H p = none → DpAll K F ys (Z.srt ds) → Q (.ref p) (upd H p (.lst ys))
theorem cr_srtU : CallR X (.builtin "sorted") (rSrtU X.K X.A.units) := by
  intro pins s σ H vs us Q I r h
  obtain ⟨a, F, xs, ds, rfl, hs, hF, hd, al, so, hu, hi, q⟩ := h
  obtain ⟨its, rv, hl, hz⟩ := I.tuple hs
  rw [Vals.ref1 r]
  have hlen := dpsLen hd
  have e := Z.vals_zip (ds := ds) hlen rv
  have hsnd : (xs.zip ds).map (fun z => z.2) = ds := Z.snd_zip hlen
  obtain ⟨o, ho, hc, n, hdt⟩ := id hl
  have li : its.length = xs.length := (Vals.length rv).symm
  refine Calls.call_function_entry PyProof.Rows.kind_sorted PyProof.Rows.plain_sorted PyProof.Rows.entry_sorted (PyProof.Rows.args_sorted1 _) ?_
  unfold Builtin.«sorted»
  refine wpAny_bind (m := checkCount "sorted" 1 1 _) (wpAny_pure ?_)
  refine wpAny_bind (wpAny_collect_seq (T := "tuple") a (.inr rfl) ho hc hdt (fun h' kp => ?_) (by simp; omega))
  have I1 : Inv X pins σ H { s with heap := h' } := I.kept (t' := s.toks) kp
  refine wpAny_bind (wpAny_newList ?_ (by simp; omega))
  rw [show its.toArray.toList = its from rfl]
  have at0 : (h'.push (seqObj "list" its.toArray 0)).get? h'.objs.size = some (seqObj "list" its.toArray 0) := Heap.get?_push_size _ rfl
  have er : PySem.W.EachIs (fun u (z : V × PyData) => ∃ as, Reads (h'.push (seqObj "list" its.toArray 0)) u z.2 as ∧ h'.objs.size ∉ as) its (xs.zip ds) := Z.each_imp e fun u z hm hr => by
    have hz2 := hi z.2 (by rw [← hsnd]; exact List.mem_map.mpr ⟨z, hm, rfl⟩)
    obtain ⟨as, ra⟩ := Dp.reads I1 z.2 z.1 u (dpUp hF _ _ (Z.dps_zip hd z hm)) hr
    have e0 := reads_k z.2 u as hz2 ra
    subst e0
    exact ⟨[], PyProof.Rows.Reads.keeps (fun _ _ hb => Heap.get?_push_of_some _ hb) ra, by simp⟩
  have hlz : (xs.zip ds).length = ds.length := by
    have h1 := congrArg List.length hsnd
    rwa [List.length_map] at h1
  refine wpAny_bind (wpAny_holding (Z.listSortX (s := { s with heap := h'.push (seqObj "list" its.toArray 0) }) (R := fun u (z : V × PyData) => RelV z.1 u) (enc := fun z : V × PyData => z.2) at0 e er (by rw [hsnd]; exact al) (by rw [hsnd]; exact so) (by rw [hlz]; omega) (fun z hm => by
      have := hu z.2 (by rw [← hsnd]; exact List.mem_map.mpr ⟨z, hm, rfl⟩)
      show X.A.units + 1 + 1 + z.2.depth < cLine
      omega) fun out ho2 eo => ?_))
  obtain ⟨ep, he'⟩ := PyProof.Rows.sortedHeap_at (vs := its) (out := out.toArray) at0
  have hl2 : (((xs.zip ds).mergeSort (PySem.W.dataLe false fun z => z.2)).map (·.1)).length ≤ sizeLine := by
    rw [List.length_map, List.length_mergeSort, hlz]
    omega
  have h2 : Z.srt ds = ((xs.zip ds).mergeSort (PySem.W.dataLe false fun z => z.2)).map (·.2) := by
    have h3 := List.map_mergeSort (r := PySem.W.dataLe false fun z : V × PyData => z.2) (s := PySem.W.dataLe false id) (f := fun z : V × PyData => z.2) (l := xs.zip ds) (fun _ _ _ _ => rfl)
    rw [hsnd] at h3
    exact h3.symm
  refine wpAny_pure ⟨_, rfl, .ref h'.objs.size, upd H h'.objs.size (.lst (((xs.zip ds).mergeSort (PySem.W.dataLe false fun z => z.2)).map (·.1))), I1.laid (t' := s.toks) (fun b u e => ?_) (Nat.le_refl _) (show ObjOk X.prog X.w _ _ _ (.lst _) from ⟨hl2, out, ep, Z.zip_vals eo, he'⟩), rfl, q _ _ (I1.hok.fresh (Nat.le_refl _)) ?_⟩
  · have hb : b < h'.objs.size := Heap.lt_size e
    rw [PyProof.Rows.sortedHeap_old (Nat.ne_of_lt hb) (by rw [size_push']; exact Nat.lt_succ_of_lt hb)]
    exact Heap.get?_push_of_some _ e
  · rw [h2]
    exact Z.dps_of_zip fun z hm => Z.dps_zip hd z ((List.mergeSort_perm _ _).mem_iff.mp hm)
open Classical in
noncomputable def bSortU (own : Bool) : FA := fun s ds => match ds with
  | [.d (.tuple xs)] => if SrtOk xs ∧ ∀ d ∈ xs, Z.kOK d = true then mkL own s ((Z.srt xs).map .d) else none
  | _ => none
theorem b_sortU (hu : X.A.units + 64 < cLine) {own : Bool} : CalS X (.builtin "sorted") (bSortU own) := fun s ds z s' e => by
  unfold bSortU at e
  split at e
  · rename_i xs
    split at e
    · rename_i hso
      obtain ⟨hs, hi⟩ := hso
      refine ⟨_, cr_srtU, fun us w H Q G hv k => ?_⟩
      obtain ⟨v, rfl, hv1⟩ := vrs1 hv
      obtain ⟨a, vs, rfl, h1, h2⟩ := dp_tup hv1
      refine ⟨a, w.F, vs, xs, rfl, G.ext.t h1, G.ext, h2, hs.al, hs.so, fun d hd => Z.roomS hu (hs.dp d hd), hi, fun p ys hp hy => ?_⟩
      obtain ⟨w', l', g', v'⟩ := mkL_ok e G hp (VRs.data.mpr hy)
      exact k _ w' _ l' g' v'
    · cases e
  · cases e
end
end N

namespace N
open PySem L2 PyProof.Rows

section
variable {X : Cx} {pos : Pos}
end
end N

namespace N
open PySem L2 PyProof.Rows

noncomputable def b__law_box : MS := (sSeq (sRet (eLst true (aCons (eCall (bList true) (aCons (eSl false (eVar 0) oNone (oSome (eC (.int 63)))) aNil)) (aCons (eC (.int 0)) (aCons (eBin (oAdd true) (eC (.int 4711)) (eCall bLen (aCons (eVar 0) aNil))) aNil)))))
  sNil)
noncomputable def m__law_box : FA := fnR 1 1 true b__law_box
noncomputable def b__law_load : MS := (sSeq (sSet 1 (eIt (eVar 0) (eC (.int 0))))
  (sSeq (sIf (tCmp cGt (eCall bLen (aCons (eVar 1) aNil)) (eC (.int 0))) (sSeq (sSet 2 (eCall bInt (aCons (eMeth fPopAt (eVar 1) (aCons (eC (.int 0)) aNil)) aNil)))
  (sSeq (sSet 3 (eIte (tCmp cGe (eVar 2) (eC (.int 0))) (eBin oMul (eC (.int 2)) (eVar 2)) (eBin oSub (eBin oMul (eNeg (eC (.int 2))) (eVar 2)) (eC (.int 1)))))
  (sSeq (sIf (tCmp cGe (eVar 3) (eC (.int 1000000000000000000))) (sSeq (sRet (eVar 3))
  sNil) sNil)
  (sSeq (sPu (eVar 0) (eC (.int 2)) (eBin oMod (eCall bInt (aCons (eBin (oAdd false) (eBin (oAdd false) (eBin oMul (eIt (eVar 0) (eC (.int 2))) (eC (.int 69621))) (eBin oMul (eVar 3) (eC (.int 48271)))) (eC (.int 11))) aNil)) (eC (.int 2147483647))))
  sNil)))) sNil)
  (sSeq (sSet 4 (eBin oMod (eCall bInt (aCons (eBin (oAdd false) (eBin oMul (eIt (eVar 0) (eC (.int 2))) (eC (.int 48271))) (eC (.int 17))) aNil)) (eC (.int 2147483629))))
  (sSeq (sSet 5 (eBin oMod (eCall bInt (aCons (eBin (oAdd false) (eBin oMul (eVar 4) (eC (.int 69621))) (eC (.int 5))) aNil)) (eC (.int 2147483587))))
  (sSeq (sPu (eVar 0) (eC (.int 2)) (eBin oMod (eCall bInt (aCons (eBin (oAdd false) (eBin oMul (eVar 5) (eC (.int 40692))) (eC (.int 3))) aNil)) (eC (.int 2147483563))))
  (sSeq (sRet (eBin (oAdd false) (eBin (oAdd false) (eBin oMul (eVar 4) (eC (.int 4611686014132420609))) (eBin oMul (eVar 5) (eC (.int 2147483647)))) (eIt (eVar 0) (eC (.int 2)))))
  sNil))))))
noncomputable def m__law_load : FA := fnR 1 6 false b__law_load
noncomputable def b__law_draw : MS := (sSeq (sIf (tCmp cLt (eIt (eVar 0) (eC (.int 1))) (eVar 1)) (sSeq (sPu (eVar 0) (eC (.int 1)) (eCall m__law_load (aCons (eVar 0) aNil)))
  sNil) sNil)
  (sSeq (sSet 2 (eBin oMod (eCall bInt (aCons (eIt (eVar 0) (eC (.int 1))) aNil)) (eVar 1)))
  (sSeq (sPu (eVar 0) (eC (.int 1)) (eBin oDiv (eIt (eVar 0) (eC (.int 1))) (eVar 1)))
  (sSeq (sRet (eVar 2))
  sNil))))
noncomputable def m__law_draw : FA := fnR 2 3 false b__law_draw

def bx (xs : List Int) (p q : Int) (rest : Sto) : Sto := .lst (xs.map fun i => .d (.int i)) :: .lst [.r 0, .d (.int p), .d (.int q)] :: rest
def BS (rest s : Sto) : Prop := ∃ xs p q, s = bx xs p q rest
section
variable {xs : List Int} {p q : Int} {rest : Sto}
theorem bx_0 : itF (bx xs p q rest) (.r 1) (.d (.int 0)) = some (.r 0) := itF_l rfl rfl
theorem bx_1 : itF (bx xs p q rest) (.r 1) (.d (.int 1)) = some (.d (.int p)) := itF_l rfl rfl
theorem bx_2 : itF (bx xs p q rest) (.r 1) (.d (.int 2)) = some (.d (.int q)) := itF_l rfl rfl
theorem bx_len : bLen (bx xs p q rest) [.r 0] = some (.d (.int xs.length), bx xs p q rest) := by
  rw [len_r (s := bx xs p q rest) (j := 0) (ds := xs.map fun i => .d (.int i)) rfl, List.length_map]
theorem xb_1 {v : Int} : putF (bx xs p q rest) (.r 1) (.d (.int 1)) (.d (.int v)) = some (bx xs v q rest) := putF_l (k := 1) (ds := [.r 0, .d (.int p), .d (.int q)]) rfl rfl
theorem xb_2 {v : Int} : putF (bx xs p q rest) (.r 1) (.d (.int 2)) (.d (.int v)) = some (bx xs p v rest) := putF_l (k := 2) (ds := [.r 0, .d (.int p), .d (.int q)]) rfl rfl
theorem bx_c0 : (bx xs p q rest)[0]? = some (.lst (xs.map fun i => .d (.int i))) := rfl
theorem BS.len {s : Sto} (h : BS rest s) : s.length = 2 + rest.length := by
  obtain ⟨xs, p, q, rfl⟩ := h
  simp [bx]; omega
theorem bx_trim {ys : List Int} {p' q' : Int} : trim (bx xs p q rest) (bx ys p' q' rest) = bx ys p' q' rest := trim_len (by simp [bx])
theorem v_pop0 {s : Sto} {y : D} {ys : List D} {Qm : List D → D → Prop} (h : Qm ys y) : Rm (fPopAt s (y :: ys) [.d (.int 0)]) Qm := by
  refine ⟨ys, y, ?_, h⟩
  have e : seqIndex? 0 (y :: ys).length = some 0 := by
    unfold seqIndex?
    simp
  unfold fPopAt
  simp only [e]
  rfl
theorem bx_pop {i : Int} : List.set (bx (i :: xs) p q rest) 0 (Cell.lst (xs.map fun i => D.d (.int i))) = bx xs p q rest := rfl
end
theorem load_ok (xs : List Int) (p q : Int) (rest : Sto) : R (m__law_load (bx xs p q rest) [.r 1]) fun x s' => ∃ (v : Int) (ys : List Int) (q' : Int), x = .d (.int v) ∧ s' = bx ys p q' rest := by
  unfold m__law_load b__law_load
  cases xs with
  | nil =>
    simp [bx_0, bx_1, bx_2, bx_len, Rs_pu, R_it, R_fn, xb_1, xb_2, v_mod, v_mulR, R_retd, bx_trim]
    exact ⟨_, _, rfl⟩
  | cons i xs =>
    simp [bx_0, bx_1, bx_2, bx_len, Rs_pu, R_it, R_fn, xb_1, xb_2, v_mod, v_mulR, R_retd, bx_trim, bx_c0]
    refine v_pop0 ?_
    rw [bx_pop]
    simp [bx_0, bx_1, bx_2, bx_len, xb_1, xb_2, v_mod, v_mulR, v_mulL, R_retd, bx_trim]
    exact ⟨fun _ => ⟨fun _ => ⟨_, _, rfl⟩, fun _ => ⟨_, _, rfl⟩⟩, fun _ => ⟨fun _ => ⟨_, _, rfl⟩, fun _ => ⟨_, _, rfl⟩⟩⟩
theorem draw_ok {rest s : Sto} {m : Int} (h : BS rest s) (h0 : 0 < m) (h1 : m < 2 ^ 256) : R (m__law_draw s [.r 1, .d (.int m)]) fun x s' => ∃ d : Int, x = .d (.int d) ∧ 0 ≤ d ∧ d < m ∧ BS rest s' := by
  obtain ⟨xs, p, q, rfl⟩ := h
  have M (q' : Int) : 0 ≤ q' % m ∧ q' % m < m := ⟨Int.emod_nonneg _ (by omega), Int.emod_lt_of_pos _ h0⟩
  have T (ys : List Int) (p' q' : Int) : BS rest (bx ys p' q' rest) := ⟨ys, p', q', rfl⟩
  unfold m__law_draw b__law_draw
  simp [bx_1, Rs_pu, R_it, R_fn]
  refine ⟨fun _ => ?_, fun _ => ?_⟩
  · refine (load_ok xs p q rest).imp fun x s' ⟨v, ys, q', e1, e2⟩ => ?_
    subst e1 e2
    simp [bx_1, xb_1, v_mod h0, v_div h0 h1, R_retd, bx_trim, M, T]
  · simp [bx_1, xb_1, v_mod h0, v_div h0 h1, R_retd, bx_trim, M, T]
theorem R_draw {rest s : Sto} {m : Nat} {Q : D → Sto → Prop} (h : BS rest s) (h0 : 0 < m) (h1 : m < 2 ^ 256) (q : ∀ (d : Nat) s', d < m → BS rest s' → Q (.d (.int (d : Nat))) s') : R (m__law_draw s [.r 1, .d (.int (m : Nat))]) Q := by
  refine (draw_ok h (m := (m : Int)) (by omega) (by omega)).imp fun x s' ⟨d, e, h2, h3, h4⟩ => ?_
  subst e
  have := q d.toNat s' (by omega) h4
  rwa [Int.toNat_of_nonneg h2] at this
theorem R_box {ns : List Int} {Q : D → Sto → Prop} (q : ∀ s, BS [] s → Q (.r 1) s) : R (m__law_box [] [.d (.list (ns.map .int))]) Q := by
  unfold m__law_box b__law_box
  simp [R_fn, asL, cutD_map, data_mapf, v_list, len_l, ret_own, lim]
  exact q _ ⟨cutD ns none (some 63), 0, 4711 + ns.length, by simp [bx]⟩
theorem BS.wf {rest s : Sto} (h : BS rest s) (f : Flat rest) : Wf s := by
  have hl := h.len
  obtain ⟨xs, p, q, rfl⟩ := h
  intro c hc
  unfold bx at hc
  rcases List.mem_cons.mp hc with rfl | hc
  · intro j hj; simp at hj
  · rcases List.mem_cons.mp hc with rfl | hc
    · intro j hj
      simp at hj
      omega
    · exact f c hc _
theorem BS.app {rest s : Sto} (h : BS rest s) (g : Sto) : BS (rest ++ g) (s ++ g) := by
  obtain ⟨xs, p, q, rfl⟩ := h
  exact ⟨xs, p, q, rfl⟩
theorem BS.unapp {rest g s : Sto} (h : BS (rest ++ g) s) : ∃ s', s = s' ++ g ∧ BS rest s' := by
  obtain ⟨xs, p, q, rfl⟩ := h
  exact ⟨bx xs p q rest, rfl, xs, p, q, rfl⟩
theorem BS.get {rest s : Sto} (h : BS rest s) (j : Nat) : s[j + 2]? = rest[j]? := by
  obtain ⟨xs, p, q, rfl⟩ := h
  rfl
theorem BS.put {rest s : Sto} (h : BS rest s) (j : Nat) (c : Cell) : BS (rest.set j c) (s.set (j + 2) c) := by
  obtain ⟨xs, p, q, rfl⟩ := h
  exact ⟨xs, p, q, rfl⟩
end N

namespace N
open PySem L2 PyProof.Rows
open Z (Ext dpUp dpsUp dpsLen dpsGet DxO KyD DEn Cl cut offv bl Dfn)

section
variable {X : Cx} {tg ex : Expr} {m : ME}
end
section
variable {X : Cx} {ex : Expr} {ms : MA} {p pos apos : Pos}
end
def rgI (a b : Int) : List PyData := (List.range (b - a).toNat).map fun i => .int (a + (i : Nat))
theorem dps_rg {K : PySem.W.Frag} {F : Hp} {a b : Int} : DpAll K F (rgV a b) (rgI a b) := by
  unfold rgV rgI
  generalize List.range (b - a).toNat = l
  induction l with
  | nil => exact .nil
  | cons x l ih => exact .cons (.int _) ih
section
variable {X : Cx} {a b : Expr} {ma mb : ME} {p pos p2 pos2 : Pos}
end
section
variable {X : Cx} {tg a b c : Expr} {ms : MA} {p pos : Pos}
end
end N

namespace N
open PySem L2 PyProof.Rows
open Z (Ext dpUp dpsUp dpsLen dpsGet DxO KyD DEn Cl cut offv bl Dfn)

section
variable {X : Cx}
end
section
variable {X : Cx} {a ex : Expr} {ma : ME} {ms : MA} {pos apos : Pos}
end
def eLstR (own : Bool) (ma : ME) : ME := fun e s => match ma e s with
  | some (.d (.int i), s1) => if 0 ≤ i ∧ i ≤ 10000 then mkL own s1 ((rgI 0 i).map .d) else none
  | _ => none
section
variable {X : Cx} {a : Expr} {ma : ME} {own : Bool} {p pos p2 pos2 : Pos}
theorem n_lstR (hc : X.calm = true) (ha : NE X a ma) (hm : X.mg "list" = none) (hr : X.mg "range" = none) (hg : Gl X "list" := by rfl) (hg2 : Gl X "range" := by rfl)
    (na : starEach [a] X.env = (false, eval a X.env) :: starEach [] X.env := by rfl)
    (nc : starEach [.Call (.Name "range" p2) [a] [] pos2] X.env = (false, eval (.Call (.Name "range" p2) [a] [] pos2) X.env) :: starEach [] X.env := by rfl) :
    NE X (.Call (.Name "list" p) [.Call (.Name "range" p2) [a] [] pos2] [] pos) (eLstR own ma) := fun e s z s' h => by
  unfold eLstR at h
  split at h
  · rename_i i s1 e1
    split at h
    · rename_i hi
      refine PE.imp (pe_listRg hc hg hm (prg_1 hg2 hr (ha _ _ _ _ e1) na) nc) fun σ H Q ⟨w, g, l, k⟩ => ⟨w, g, l, fun v w1 H1 l1 g1 v1 => ?_⟩
      cases vr_int v1
      refine ⟨i, rfl, RgOk.of_le (by decide) (by omega) (by decide) (by omega), fun q hq => ?_⟩
      obtain ⟨w', l', g', v'⟩ := mkL_ok h g1 hq (VRs.data.mpr dps_rg)
      exact k _ w' _ (l1.trans l') g' v'
    · cases h
  · cases h
end
section
variable {X : Cx} {a b c d v1 v2 v3 : Expr} {ma mi mb mj : ME} {ms : MA} {pos px pt pt2 tp1 tp2 : Pos} {kt k2 : Nat}
end
section
variable {X : Cx} {pos : Pos} {keys : List (Option Expr)} {values : List Expr} {k v : Expr} {m mv : ME} {mr : MPP}
end
section
variable {X : Cx} {a b c : Expr} {ms : MA} {pos : Pos}
theorem ns_parC3 {x y z : Str} {px py pz pt pt2 : Pos} {kt k2 : Nat} (i j k : Nat) (ha : NA X [a, b, c] ms) (hN : X.N.Nodup) (hc : X.calm = true := by rfl) (hx : X.N[i]? = some x := by rfl) (hy : X.N[j]? = some y := by rfl) (hz : X.N[k]? = some z := by rfl)
    (hlx : Loc X.env.scope x := by first | exact .inl rfl | exact .inr rfl) (hly : Loc X.env.scope y := by first | exact .inl rfl | exact .inr rfl) (hlz : Loc X.env.scope z := by first | exact .inl rfl | exact .inr rfl)
    (hfx : X.fn x = true ∨ X.env.scope.names.lookup x = some .local := by first | exact .inl rfl | exact .inr rfl) (hfy : X.fn y = true ∨ X.env.scope.names.lookup y = some .local := by first | exact .inl rfl | exact .inr rfl) (hfz : X.fn z = true ∨ X.env.scope.names.lookup z = some .local := by first | exact .inl rfl | exact .inr rfl)
    (hs : swapsWithSole [.Tuple [.Name x px, .Name y py, .Name z pz] kt pt] (.Tuple [a, b, c] k2 pt2) pos.line X.env = pure false := by rfl) (hw : swappedStores [.Tuple [.Name x px, .Name y py, .Name z pz] kt pt] (.Tuple [a, b, c] k2 pt2) X.env = pure none := by rfl) :
    NS X (.Assign [.Tuple [.Name x px, .Name y py, .Name z pz] kt pt] (.Tuple [a, b, c] k2 pt2) pos) (sPar [i, j, k] ms) := fun e s fl e' s' bb hm hb => by
  unfold sPar at hm
  split at hm
  · rename_i ds s1 e1
    split at hm
    · rename_i hl
      cases hm
      match ds, hl with
      | [d1, d2, d3], _ =>
        refine Z.PS.imp (ps_asg (pe_tup (ha _ _ _ _ e1)) (pg_tup hc (pgs_cons (pg_name hN hx hlx hfx) (pgs_cons (pg_name hN hy hly hfy) (pgs_cons (pg_name hN hz hlz hfz) pgs_nil))) (n := 3)) hs hw) fun Dn σ H ⟨w, g, l, q⟩ => ⟨w, g, l, fun us w1 H1 l1 g1 v1 => ?_⟩
        obtain ⟨u, v, t, rfl, h1, h2, h3⟩ := vrs3 v1
        refine ⟨(by decide : 3 ≤ sizeLine), fun p hp => ⟨p, [u, v, t], rfl, .of upd_same, rfl, u, [v, t], rfl, v, [t], rfl, t, [], rfl, rfl, ?_⟩⟩
        have l2 := g1.frz_le (o := .tup [u, v, t]) hp
        have g2 := g1.frz (o := .tup [u, v, t]) hp
        exact q _ _ _ ((l1.trans l2).cut bb) g2 ((((l.up (l1.trans l2)).put i (h1.up l2)).put j (h2.up l2)).put k (h3.up l2))
    · cases hm
  · cases hm
end
end N

namespace N
open PySem L2 PyProof.Rows
open Z (Ext dpUp dpsUp dpsLen dpsGet DxO KyD DEn Cl cut offv bl Dfn)

section
variable {X : Cx} {pos : Pos}
end
end N

namespace N
open PySem L2 PyProof.Rows
open Z (Ext dpUp dpsUp dpsLen dpsGet DxO KyD DEn dkind)

section
variable {X : Cx}
variable {o ex : Expr} {to : TE} {t : TA} {apos cpos : Pos}
end
section
variable {X : Cx} {o ex : Expr} {ma : ME} {ms : MA} {apos pos : Pos}
end
section
variable {X : Cx} {o : Expr} {ma : ME} {apos pos : Pos}
end
end N

namespace N
open PySem L2 PyProof.Rows
open Z (Ext dpUp dpsUp dpsLen dpsGet DxO KyD DEn dkind)

section
variable {X : Cx} {a : Expr} {ma : ME} {pos : Pos}
end
end N

namespace N
open PySem L2 PyProof.Rows
open Z (Ext dpUp dpsUp dpsLen dpsGet DxO KyD DEn)

section
variable {X : Cx} {a b c d v1 v2 : Expr} {ma mi mb mj : ME} {ms : MA} {pos pt pt2 tp1 tp2 : Pos} {kt k2 : Nat}
end
def eTupR1 (mb : ME) : ME := fun e s => match mb e s with
  | some (.d (.int j), s2) => if -(2 ^ 62) ≤ j ∧ j < 2 ^ 62 ∧ j.toNat ≤ 2 ^ 24 then some (.d (.tuple (rgI 0 j)), s2) else none
  | _ => none
section
variable {X : Cx} {b : Expr} {mb : ME} {p pos p2 pos2 : Pos}
theorem n_tupR1 (hc : X.calm = true) (hb : NE X b mb) (hm : X.mg "tuple" = none) (hr : X.mg "range" = none) (hg : Gl X "tuple" := by rfl) (hg2 : Gl X "range" := by rfl)
    (nb : starEach [b] X.env = (false, eval b X.env) :: starEach [] X.env := by rfl)
    (nc : starEach [.Call (.Name "range" p2) [b] [] pos2] X.env = (false, eval (.Call (.Name "range" p2) [b] [] pos2) X.env) :: starEach [] X.env := by rfl) :
    NE X (.Call (.Name "tuple" p) [.Call (.Name "range" p2) [b] [] pos2] [] pos) (eTupR1 mb) := fun e s z s' h => by
  unfold eTupR1 at h
  split at h
  · rename_i j s2 e2
    split at h
    · rename_i hb2
      cases h
      refine PE.imp (pe_tupRg hc hg hm (prg_1 hg2 hr (hb _ _ _ _ e2) nb) nc) fun σ H Q ⟨w, g, l, k⟩ => ⟨w, g, l, fun v w1 H1 l1 g1 v1 => ?_⟩
      cases vr_int v1
      refine ⟨j, rfl, ⟨by decide, by decide, hb2.1, hb2.2.1, by rw [Int.sub_zero]; exact hb2.2.2⟩, fun q hq => ?_⟩
      obtain ⟨w', l', g', v'⟩ := tup_ok g1 hq (xs := rgI 0 j) dps_rg
      exact k _ w' _ (l1.trans l') g' v'
    · cases h
  · cases h
end
end N

namespace N
open PySem L2 PyProof.Rows
open Z (Ext dpUp dpsUp dpsLen dpsGet DxO KyD DEn)

def eTp (ms : MA) : ME := fun e s => match ms e s with
  | some (ds, s1) => if ds.length ≤ lim then some (.r s1.length, s1 ++ [.tp ds]) else none
  | none => none
def sUnp2 (i j : Nat) (m : ME) : MS := fun e s => match m e s with
  | some (.r k, s1) => match s1[k]? with
    | some (.tp [d1, d2]) => some (.nx, (e.set i (some d1)).set j (some d2), s1)
    | _ => none
  | _ => none
section
variable {X : Cx} {es : List Expr} {value : Expr} {pos : Pos}
theorem n_tp {k : Nat} {ms : MA} (h : NA X es ms) : NE X (.Tuple es k pos) (eTp ms) := fun e s d s' hm => by
  unfold eTp at hm
  split at hm
  · rename_i ds s1 e1
    split at hm
    · rename_i hl
      cases hm
      refine PE.imp (pe_tup (h _ _ _ _ e1)) fun σ H Q ⟨w, g, l, q⟩ => ⟨w, g, l, fun vs w1 H1 l1 g1 v1 => ?_⟩
      refine ⟨by rw [v1.len]; exact Nat.le_trans hl (Nat.le_of_lt lim_lt), fun q' hq => ?_⟩
      exact q _ _ _ (l1.trans Ok.new_le) (g1.new hq ⟨ext_none g1.ext hq, vs, upd_same, v1.up Ok.new_le⟩) g1.new_at
    · cases hm
  · cases hm
theorem ns_unp2 {x y : Str} {px py pt : Pos} {kt : Nat} {m : ME} (i j : Nat) (ha : NE X value m) (hN : X.N.Nodup) (hc : X.calm = true := by rfl) (hx : X.N[i]? = some x := by rfl) (hy : X.N[j]? = some y := by rfl)
    (hlx : Loc X.env.scope x := by first | exact .inl rfl | exact .inr rfl) (hly : Loc X.env.scope y := by first | exact .inl rfl | exact .inr rfl)
    (hfx : X.fn x = true ∨ X.env.scope.names.lookup x = some .local := by first | exact .inl rfl | exact .inr rfl) (hfy : X.fn y = true ∨ X.env.scope.names.lookup y = some .local := by first | exact .inl rfl | exact .inr rfl)
    (hs : swapsWithSole [.Tuple [.Name x px, .Name y py] kt pt] value pos.line X.env = pure false := by rfl) (hw : swappedStores [.Tuple [.Name x px, .Name y py] kt pt] value X.env = pure none := by rfl) :
    NS X (.Assign [.Tuple [.Name x px, .Name y py] kt pt] value pos) (sUnp2 i j m) := fun e s fl e' s' bb hm hb => by
  unfold sUnp2 at hm
  split at hm
  · rename_i k s1 e1
    split at hm
    · rename_i d1 d2 e2
      cases hm
      refine Z.PS.imp (ps_asg (ha _ _ _ _ e1) (pg_tup hc (pgs_cons (pg_name hN hx hlx hfx) (pgs_cons (pg_name hN hy hly hfy) pgs_nil)) (n := 2)) hs hw) fun Dn σ H ⟨w, g, l, q⟩ => ⟨w, g, l, fun z w1 H1 l1 g1 v1 => ?_⟩
      obtain ⟨a, h1, rfl⟩ := v1
      obtain ⟨hF, vs, h2, h3⟩ := g1.ce k _ a e2 h1
      obtain ⟨u, v, rfl, r1, r2⟩ := vrs2 h3
      exact ⟨a, [u, v], rfl, .of h2, rfl, u, [v], rfl, v, [], rfl, rfl, q _ _ _ (l1.cut bb) g1 (((l.up l1).put i r1).put j r2)⟩
    · cases hm
  · cases hm
end
end N

namespace N
open PySem L2 PyProof.Rows
open Z (Ext dpUp dpsUp dpsLen dpsGet DxO KyD DEn)

section
variable {X : Cx} {o ex : Expr} {ma mi : ME} {apos pos : Pos}
end
end N

namespace N
open PySem L2 PyProof.Rows
open Z (Dfn)

abbrev GX := Sto → List D → Option (Str × Sto)
/-- the promise of a def about the error that it raises -/
def spG (B : Ba) (mg : Str → Option Value) (G : GX) : Sp := fun vs H _ E => ∃ w ds s x s', Ok B w s H ∧ VRs B w vs ds ∧ G s ds = some (x, s') ∧ ∀ C w' H', mg x = some (.ref C) → w.le w' → Ok B w' s' H' → E (.ref C) none H'
structure FnX (P : Program) (w : World) (K : PySem.W.Frag) (mg : Str → Option Value) (base : Heap) (k : Nat) (x : Str) (G : GX) : Prop where
  ex : ∃ (f : Addr) (fd : FuncData) (ps : List Str), FnOk P w K mg base (L2.CX P w) k f fd ps (spG ⟨P, w, K⟩ mg G) ∧ mg x = some (.ref f) ∧ PySem.W.keepIn K (.ref f) = true ∧ Binds K fd ps []
theorem FnX.mono {P : Program} {w : World} {K : PySem.W.Frag} {mg : Str → Option Value} {base : Heap} {x : Str} {G : GX} {k j : Nat} (c : FnX P w K mg base k x G) (h : k ≤ j) : FnX P w K mg base j x G := let ⟨f, fd, ps, F, r⟩ := c.ex; ⟨f, fd, ps, F.mono h, r⟩
abbrev MX := Lo → Sto → Option (Str × Sto)
section
variable {X : Cx} {W : WX} {ex a b c tg : Expr} {es : List Expr} {st : Stmt} {rest body orelse : List Stmt} {ms : MA} {mt : MT} {pos p : Pos} {M : MS} {g g1 g2 : MX}
theorem ps_noxN {st : Stmt} {t : L2.TS} (h : PS X.nox st t) : PS X st t := ⟨fun pins s σ H D I hw =>
  wpAny_mono (h.run pins s σ H D (I.wish _) hw) (fun _ _ q => q.unwish) fun _ _ z => False.elim z⟩
theorem NS.nox (h : NS X.nox st M) : NS X st M := fun e s fl e' s' b hm hb => ps_noxN (h e s fl e' s' b hm hb)
end
end N

namespace N
open PySem L2 PyProof.Rows
open Z (Dfn)

section
variable {X : Cx} {a C : Addr} {oe : Obj} {pn : List (Addr × Obj)} {n y1 y2 y3 y4 : Str} {i : Nat} {q1 q2 p1 p2 p3 p4 q3 q4 q5 : Pos} {k : Nat}
end
section
variable {X : Cx} {C : Addr} {x n y1 y2 y3 y4 : Str} {i : Nat} {np q1 q2 p1 p2 p3 p4 q3 q4 q5 q6 pos pos' xp : Pos} {k : Nat} {g : MX} {ex : Expr}
end
section
variable {X : Cx} {C : Addr} {x n y1 y2 y3 y4 td w1 w2 : Str} {i it : Nat} {np q1 q2 p1 p2 p3 p4 q3 q4 q5 q6 pos pos' xp c1 c2 c3 c4 u1 u2 u3 tp : Pos} {k k1 k2 k3 k4 k5 k6 : Nat} {g : MX} {M : MS} {bst : Stmt}
end
section
variable {X : Cx} {W : WX} {g g1 g2 : MX} {td w0 : Str} {call : Expr} {k1 k2 : Nat} {c1 c2 tp pos : Pos} {it : Nat} {st : List Stmt}
end
end N

namespace N
open PySem L2 PyProof.Rows
open Z (Dfn)

theorem FR.look {B : Ba} {w : W} {f : Str} : ∀ {vs : List (Str × V)} {fs : List (Str × D)} {d : D}, FR B w vs fs → fs.lookup f = some d → ∃ v, vs.lookup f = some v ∧ VR B w v d
  | [], [], _, _, h => by cases h
  | (g, v) :: vs, (g', d') :: fs, d, ⟨⟨h1, h2⟩, h3⟩, h => by
    cases (show g = g' from h1)
    rw [List.lookup_cons] at h ⊢
    split at h
    · rename_i e
      cases h
      exact ⟨v, rfl, h2⟩
    · rename_i e
      exact FR.look h3 h
  | [], _ :: _, _, h, _ => h.elim
  | _ :: _, [], _, h, _ => h.elim
theorem FR.lookN {B : Ba} {w : W} {f : Str} : ∀ {vs : List (Str × V)} {fs : List (Str × D)}, FR B w vs fs → fs.lookup f = none → vs.lookup f = none
  | [], [], _, _ => rfl
  | (g, v) :: vs, (g', d') :: fs, ⟨⟨h1, h2⟩, h3⟩, h => by
    cases (show g = g' from h1)
    rw [List.lookup_cons] at h ⊢
    split at h
    · cases h
    · exact FR.lookN h3 h
  | [], _ :: _, h, _ => h.elim
  | _ :: _, [], h, _ => h.elim
theorem FR.len {B : Ba} {w : W} : ∀ {vs : List (Str × V)} {fs : List (Str × D)}, FR B w vs fs → vs.length = fs.length
  | [], [], _ => rfl
  | _ :: _, _ :: _, ⟨_, h⟩ => by simp [FR.len h]
  | [], _ :: _, h => h.elim
  | _ :: _, [], h => h.elim
/-- an attribute is set -/
def putA (f : Str) (d : D) : List (Str × D) → List (Str × D)
  | [] => [(f, d)]
  | (g, x) :: r => if g = f then (g, d) :: r else (g, x) :: putA f d r
theorem FR.put {B : Ba} {w : W} {f : Str} {v : V} {d : D} (hv : VR B w v d) : ∀ {vs : List (Str × V)} {fs : List (Str × D)}, FR B w vs fs → FR B w (L2.putF f v vs) (putA f d fs)
  | [], [], _ => ⟨⟨rfl, hv⟩, trivial⟩
  | (g, x) :: vs, (g', x') :: fs, ⟨⟨h1, h2⟩, h3⟩ => by
    cases (show g = g' from h1)
    unfold L2.putF putA
    split
    · exact ⟨⟨rfl, hv⟩, h3⟩
    · exact ⟨⟨rfl, h2⟩, FR.put hv h3⟩
  | [], _ :: _, h => h.elim
  | _ :: _, [], h => h.elim
/-- an object laid down that nobody tells of -/
theorem Ok.more {B : Ba} {w : W} {s : Sto} {H : Hp} {p : Addr} {o : HO} (g : Ok B w s H) (hp : H p = none) : Ok B w s (upd H p o) := by
  refine ⟨fun a u q => ?_, g.lr, g.nd, fun a ha => ?_, fun j c a h1 h2 => ?_⟩
  · have := g.ext a u q
    rw [upd_ne (ne_of_none this hp)]
    exact this
  · obtain ⟨u, hu⟩ := g.al a ha
    exact ⟨u, by rw [upd_ne (ne_of_none hu hp)]; exact hu⟩
  · have ha := List.mem_of_getElem? h2
    have ne : a ≠ p := fun e => g.notin hp (e ▸ ha)
    exact (g.ce j c a h1 h2).up (W.le.refl w) (fun hn => hn) fun o ho => by rw [upd_ne ne]; exact ho
def insAt (C : Addr) (s : Sto) (j : Nat) : Option (List (Str × D)) := match s[j]? with
  | some (.ins C' fs) => if C' = C then some fs else none
  | _ => none
theorem insAt_ok {C : Addr} {s : Sto} {j : Nat} {fs : List (Str × D)} (h : insAt C s j = some fs) : s[j]? = some (.ins C fs) := by
  unfold insAt at h
  split at h
  · rename_i C' fs' e
    split at h
    · rename_i hc
      cases h
      rw [e, hc]
    · cases h
  · cases h
/-- o.f -/
def eAttr (C : Addr) (f : Str) (ma : ME) : ME := fun e s => match ma e s with
  | some (.r j, s1) => match insAt C s1 j with
    | some fs => match fs.lookup f with
      | some d => some (d, s1)
      | none => none
    | none => none
  | _ => none
section
variable {X : Cx} {a ex : Expr} {es : List Expr} {ma mv : ME} {ms : MA} {C : Addr} {f m : Str} {p pos pos' apos : Pos}
theorem n_attr (T : Cls X.K C) (n : NoAttr X.K C f) (ha : NE X a ma) (hb : attributeBase a f X.env (eval a X.env) = eval a X.env := by rfl) : NE X (.Attribute a f pos) (eAttr C f ma) := fun e s d s' h => by
  unfold eAttr at h
  split at h
  · rename_i j s1 e1
    split at h
    · rename_i fs e2
      split at h
      · rename_i d' e3
        cases h
        refine PE.imp (pe_fld (ha _ _ _ _ e1) hb) fun σ H Q ⟨w, g, l, q⟩ => ⟨w, g, l, fun v w1 H1 l1 g1 v1 => ?_⟩
        obtain ⟨ad, h1, rfl⟩ := v1
        obtain ⟨_, dx, vs, h2, h3⟩ := g1.ce _ _ ad (insAt_ok e2) h1
        obtain ⟨u, h4, h5⟩ := h3.look e3
        exact ⟨ad, C, dx, vs, u, rfl, h2, T, n, h4, q u w1 H1 l1 g1 h5⟩
      · cases h
    · cases h
  · cases h
/-- o.f = value -/
def sAttr (C : Addr) (f : Str) (ma mv : ME) : MS := fun e s => match mv e s with
  | some (d, s1) => match ma e s1 with
    | some (.r j, s2) => match insAt C s2 j with
      | some fs => if fs.length < 1000 then some (.nx, e, s2.set j (.ins C (putA f d fs))) else none
      | none => none
    | _ => none
  | none => none
theorem ns_attr (T : Cls X.K C) (n : NoAttr X.K C f) (hv : NE X ex mv) (ha : NE X a ma) (hs : swapsWith ex (some (.Attribute a f pos')) pos.line X.env = pure false := by rfl) : NS X (.Assign [.Attribute a f pos'] ex pos) (sAttr C f ma mv) := fun e s fl e' s' b h hbl => by
  unfold sAttr at h
  split at h
  · rename_i d s1 e0
    split at h
    · rename_i j s2 e1
      split at h
      · rename_i fs e2
        split at h
        · rename_i hl
          cases h
          refine Z.PS.imp (ps_fld (ha _ _ _ _ e1) (hv _ _ _ _ e0) hs) fun D σ H ⟨w, g, l, q⟩ => ⟨w, g, l, fun v w1 H1 l1 g1 v1 => ⟨w1, g1, l.up l1, fun u w2 H2 l2 g2 v2 => ?_⟩⟩
          obtain ⟨ad, h1, rfl⟩ := v2
          obtain ⟨hF, dx, vs, h2, h3⟩ := g2.ce _ _ ad (insAt_ok e2) h1
          refine ⟨ad, C, dx, vs, rfl, h2, T, n, by rw [h3.len]; exact hl, ?_⟩
          exact q w2 _ _ ((l1.trans l2).cut b) (g2.chg h1 hF ⟨hF, dx, _, upd_same, h3.put (v1.up l2)⟩) ((l.up l1).up l2)
        · cases h
      · cases h
    · cases h
  · cases h
/-- the methods of a class -/
structure FnM (P : Program) (w : World) (K : PySem.W.Frag) (mg : Str → Option Value) (base : Heap) (k : Nat) (C : Addr) (m : Str) (F : FA) : Prop where
  ex : ∃ (f : Addr) (fd : FuncData) (ps : List Str), FnOk P w K mg base CX0 k f fd ps (spN ⟨P, w, K⟩ F) ∧ Meth K C m f ∧ Binds K fd ps []
structure DfnM (K : PySem.W.Frag) (C : Addr) (m q : Str) (st : Stmt) (ps : List Str) : Prop where
  ex : ∃ (f : Addr) (fd : FuncData), Fun K m q st f fd ∧ Meth K C m f ∧ Binds K fd ps []
theorem FnM.mono {P : Program} {w : World} {K : PySem.W.Frag} {mg : Str → Option Value} {base : Heap} {C : Addr} {x : Str} {F : FA} {k j : Nat} (c : FnM P w K mg base k C x F) (h : k ≤ j) : FnM P w K mg base j C x F := let ⟨f, fd, ps, F, r⟩ := c.ex; ⟨f, fd, ps, F.mono h, r⟩
/-- o.m(..) -/
def eMethC (C : Addr) (m : Str) (F : FA) (ma : ME) (ms : MA) : ME := fun e s => match ma e s with
  | some (.r j, s1) => match insAt C s1 j with
    | some fs => match fs.lookup m with
      | none => match ms e s1 with
        | some (ds, s2) => F s2 (.r j :: ds)
        | none => none
      | some _ => none
    | none => none
  | _ => none
theorem n_methC {pl : Sem Bool} {F : FA} {k jr : Nat} (T : Cls X.K C) (c : FnM X.prog X.w X.K X.mg X.base k C m F) (ha : NE X a ma) (hs : NA X (ex :: es) ms) (hr : Room jr X.A) (hk : k ≤ jr := by omega)
    (hst : starEach (ex :: es) X.env = (false, eval ex X.env) :: starEach es X.env := by rfl) (hpl : (backTo pos (starEach es X.env)).any (·.1) = false := by rfl)
    (ht : eval (.Call (.Attribute a m apos) (ex :: es) [] pos) X.env = (do
      let ov ← eval a X.env
      standAt apos.atName
      let (f, first) ← holding [ov] (getMethod ov m pl)
      callWith pos f first (backTo pos (starEach (ex :: es) X.env)) (backToKw pos (keywordEach [] X.env))) := by rfl) :
    NE X (.Call (.Attribute a m apos) (ex :: es) [] pos) (eMethC C m F ma ms) := fun e s d s' h => by
  unfold eMethC at h
  split at h
  · rename_i j s1 e1
    split at h
    · rename_i fs e2
      split at h
      · rename_i e3
        split at h
        · rename_i ds s2 e4
          obtain ⟨f, fd, ps, FF, hm, b⟩ := c.ex
          refine PE.imp (pe_meth (ha _ _ _ _ e1) T hm FF (hr.mono hk) b .nil pass0 (hs _ _ _ _ e4) hst hpl ht) fun σ H Q ⟨w, g, l, q⟩ => ⟨w, g, l, fun v w1 H1 l1 g1 v1 => ?_⟩
          have v1' := v1
          obtain ⟨ad, h1, rfl⟩ := v1
          obtain ⟨_, dx, vs, h2, h3⟩ := g1.ce _ _ ad (insAt_ok e2) h1
          refine ⟨ad, dx, vs, rfl, h2, h3.lookN e3, w1, g1, l.up l1, fun us w2 H2 l2 g2 v2 => ?_⟩
          show spN _ F (.ref ad :: (us ++ [])) H2 Q E0
          rw [List.append_nil]
          exact ⟨w2, .r j :: ds, s2, d, s', g2, ⟨v1'.up l2, v2⟩, h, fun v w3 H3 l3 g3 v3 => q v w3 H3 ((l1.trans l2).trans l3) g3 v3⟩
        · cases h
      · cases h
    · cases h
  · cases h
/-- C(..), C with an __init__ -/
def eNew (C : Addr) (I : FA) (ms : MA) : ME := fun e s => match ms e s with
  | some (ds, s1) => match I (s1 ++ [.ins C []]) (.r s1.length :: ds) with
    | some (.d .none, s2) => some (.r s1.length, s2)
    | _ => none
  | none => none
/-- what is asked of a class that makes instances -/
structure MkN (K : PySem.W.Frag) (mg : Str → Option Value) (x : Str) (C : Addr) : Prop where
  gC : mg x = some (.ref C)
  cl : Cls K C
  mkC : PySem.W.makesIn K C = true
  kC : PySem.W.keepIn K (.ref C) = true
theorem n_new {x : Str} {I : FA} {k jr : Nat} (T : MkN X.K X.mg x C) (c : FnM X.prog X.w X.K X.mg X.base k C "__init__" I) (hs : NA X (ex :: es) ms) (hr : Room jr X.A) (hk : k + 1 ≤ jr := by omega) (hg : Gl X x := by rfl) (hdb : (x == ("__debug__" : Str)) = false := by decide)
    (he : starEach (ex :: es) X.env = (false, eval ex X.env) :: starEach es X.env := by rfl) (hpl : (backTo pos (starEach es X.env)).any (·.1) = false := by rfl) :
    NE X (.Call (.Name x p) (ex :: es) [] pos) (eNew C I ms) := fun e s d s' h => by
  unfold eNew at h
  split at h
  · rename_i ds s1 e1
    split at h
    · rename_i s2 e2
      cases h
      obtain ⟨f, fd, ps, FF, hm, b⟩ := c.ex
      refine PE.imp (pe_make ⟨T.mkC, hm.at_, hm.fn, T.kC⟩ FF (hr.mono hk) hg T.gC b .nil pass0 (hs _ _ _ _ e1) hdb he hpl) fun σ H Q ⟨w, g, l, q⟩ => ⟨w, g, l, fun vs w1 H1 l1 g1 v1 ad dx ha hd hne => ?_⟩
      show spN _ I (.ref ad :: (vs ++ [])) _ _ E0
      rw [List.append_nil]
      have g2 : Ok (ba X) w1 s1 (upd H1 dx (.own ad)) := g1.more hd
      have hx : upd H1 dx (.own ad) ad = none := by rw [upd_ne (Ne.symm hne)]; exact ha
      have g3 := g2.new (o := .ins C dx []) (c := .ins C []) hx ⟨ext_none g2.ext hx, dx, [], upd_same, trivial⟩
      have l3 : w1.le ⟨w1.F, w1.ρ ++ [ad]⟩ := Ok.new_le
      have at3 : VR (ba X) ⟨w1.F, w1.ρ ++ [ad]⟩ (.ref ad) (.r s1.length) := g2.new_at
      refine ⟨_, .r s1.length :: ds, _, .d .none, s', g3, ⟨at3, v1.up l3⟩, e2, fun v w4 H4 l4 g4 v4 => ⟨vr_non v4, ?_⟩⟩
      exact q _ w4 H4 ((l1.trans l3).trans l4) g4 (at3.up l4)
    · cases h
  · cases h
end
theorem nfunM {P : Program} {w : World} {K : PySem.W.Frag} {mg : Str → Option Value} {base : Heap} {C : Addr} {x q : Str} {st : Stmt} {ps N : List Str} {k : Nat} {own : Bool} {M : MS} (DD : DfnM K C x q st ps) (S : FnScope N ps (defScope st))
    (body : ∀ (f : Addr) (cdv : Value) (A : Around) (outer : List Env) (s : Shared) (H : Hp) (E : XK), Room k (A.deeper (envOfC q (defScope st) s.heap.objs.size f cdv)) →
      NSs (cxOf CX0 P w K mg base N q (defScope st) f cdv A outer s H E).nox (defBody st) M) : FnM P w K mg base (k + 1) C x (fnR ps.length N.length own M) := by
  obtain ⟨f, fd, F, hm, hb⟩ := DD.ex
  have len : ∀ {s : Sto} {ds : List D} {d : D} {s' : Sto}, fnR ps.length N.length own M s ds = some (d, s') → ds.length = ps.length := fun {s ds d s'} h => by
    unfold fnR at h
    split at h
    · assumption
    · cases h
  refine ⟨f, fd, ps, F.ok S (fun vs H Q E ⟨w, ds, s, d, s', g, hv, h, _⟩ => by rw [hv.len]; exact len h) (fun cdv A outer sh H vs Q E hr ⟨w, ds, s, d, s', g, hv, h, k⟩ => ?_), hm, hb⟩
  have hl := len h
  have go : ∀ fl e1 s1 d0, M (ds.map some ++ List.replicate (N.length - ps.length) none) s = some (fl, e1, s1) → ret own s d0 s1 = some (d, s') → (fl = .rt d0 ∨ (fl = .nx ∧ d0 = .d .none)) → ∃ t, PSs (cxOf CX0 P _ K mg base N q (defScope st) f cdv A outer sh H E).nox (defBody st) t ∧ t { nx := fun _ H' => Q .non H', rt := Q } (start N vs) H := fun fl e1 s1 d0 h1 h2 h3 => by
    refine ⟨_, body f cdv A outer sh H E hr _ _ _ _ _ s.length h1 (Nat.le_refl _), w, g, ?_, ?_⟩
    · show Sl _ w _ (vs.map some ++ List.replicate (N.length - vs.length) none)
      rw [hv.len, hl]
      exact VRs.start _ hv
    · rcases h3 with rfl | ⟨rfl, rfl⟩
      · exact fun w' v H' l g' v' => by
          obtain ⟨w2, l2, g2, v2⟩ := ret_ok h2 g (W.le.of_take l g.lr) g' v'
          exact k v w2 H' l2 g2 v2
      · exact fun w' σ' H' l g' sl => by
          obtain ⟨w2, l2, g2, v2⟩ := ret_ok h2 g (W.le.of_take l g.lr) g' vn
          exact k .non w2 H' l2 g2 v2
  unfold fnR at h
  rw [if_pos hl] at h
  split at h
  · rename_i d0 e1 s1 e0
    exact go _ _ _ _ e0 h (.inl rfl)
  · rename_i e1 s1 e0
    exact go _ _ _ _ e0 h (.inr ⟨rfl, rfl⟩)
  · cases h
/-- nothing is promised -/
theorem nfunM_none {P : Program} {w : World} {K : PySem.W.Frag} {mg : Str → Option Value} {base : Heap} {C : Addr} {x q : Str} {st : Stmt} {ps N : List Str} {k : Nat} (DD : DfnM K C x q st ps) (S : FnScope N ps (defScope st)) : FnM P w K mg base (k + 1) C x (fun _ _ => none) := by
  obtain ⟨f, fd, F, hm, hb⟩ := DD.ex
  exact ⟨f, fd, ps, F.ok S (fun vs H Q E ⟨w, ds, s, d, s', g, hv, h, _⟩ => by cases h) (fun cdv A outer sh H vs Q E hr ⟨w, ds, s, d, s', g, hv, h, k⟩ => by cases h), hm, hb⟩
theorem dfnM_mk {K : PySem.W.Frag} {C : Addr} {m q : Str} {st : Stmt} {ps : List Str} {f : Addr} {od an : Option Addr} {sl : Array (Option Value)} {oc kV dc pm cd ct : Value}
    (a : PySem.W.findIn K (.ref C) m = some (some (.ref f))) (i : PySem.W.isFn K (.ref f) = true) (l : K.lookup f = some ⟨oc, od, .func (PySem.W.fnOf m q (defArgs st) (defBody st) (defScope st) .none kV dc pm an cd ct), sl⟩) (c : PySem.W.codeIn K cd q = true) (kp : PySem.W.keepIn K (.ref f) = true)
    (b : ∀ (kV doc pm : Value) (an : Option Addr) (cdv ct : Value) (us : List Value), us.length = ps.length → bindArgs (PySem.W.fnOf m q (defArgs st) (defBody st) (defScope st) .none kV doc pm an cdv ct) ⟨us, []⟩ = pure (ps.zip us)) : DfnM K C m q st ps := by
  have F := fun_mk (st := st) l c kp
  exact ⟨f, _, F, ⟨a, i, kp⟩, F.binds b⟩
end N

namespace T78
open PySem L2 PyProof.Rows N
open Z (Dfn)
def topS (i : Nat) : Stmt := PySem.Challenge.pw_cantmove_k78_whole_kayles.main.body.getD i (.Pass ⟨0, 0, 0, 0⟩)
structure Nm (mg : Str → Option Value) : Prop where
  n_all : mg "all" = none
  n_bool : mg "bool" = none
  n_dict : mg "dict" = none
  n_enumerate : mg "enumerate" = none
  n_int : mg "int" = none
  n_isinstance : mg "isinstance" = none
  n_len : mg "len" = none
  n_list : mg "list" = none
  n_max : mg "max" = none
  n_min : mg "min" = none
  n_range : mg "range" = none
  n_sorted : mg "sorted" = none
  n_str : mg "str" = none
  n_tuple : mg "tuple" = none
structure Gm (mg : Str → Option Value) : Prop where
  triv : True
structure Cl_Kayles (K : PySem.W.Frag) (mg : Str → Option Value) (C : Addr) : Prop where
  mkn : MkN K mg "Kayles" C
  n_by_edges : NoAttr K C "by_edges"
  n_known : NoAttr K C "known"
  n_nexts : NoAttr K C "nexts"
variable {P : Program} {w : World} {K : PySem.W.Frag} {mg : Str → Option Value} {base : Heap}
abbrev s_least_missing : Stmt := topS 1
theorem sc_least_missing : FnScope ["numbers", "known", "number", "k"] ["numbers"] (defScope s_least_missing) := ⟨rfl, rfl, rfl, by decide +kernel, rfl, by decide +kernel, by decide +kernel⟩
theorem c_least_missing  (DD : Dfn K mg "least_missing" s_least_missing ["numbers"]) (n : Nm mg) (g : Gm mg)  : Fn P w K mg base 1 "least_missing" m_least_missing :=
  nfun (k := 0) DD sc_least_missing fun f cdv A outer s H E hr => by
  have hu := hr.units
  have nd := sc_least_missing.nd
  exact (ns_seq (ns_setDc 1 (ni_seq (n_var 0)) (fun z => (ng_name 2 nd)) (fun z => nts_nil) (fun z => (n_var 2)) (fun z => n_bl) nd (blkOk_by (own := [("number", 2)]) (by kernel_rfl)))
  (ns_seq (ns_set 3 n_int nd)
  (ns_seq (ns_while (nt_in (.inl ⟨rfl, rfl⟩) hu (n_var 3) (n_var 1)) (ns_seq (ns_aug io_add 3 n_int nd)
  ns_nil) PassesOwn.never)
  (ns_seq (ns_ret (n_var 3))
  ns_nil))))
abbrev s_nexts_of : Stmt := topS 3
theorem sc_nexts_of : FnScope ["graph", "n", "edges", "found", "_", "i", "j"] ["graph"] (defScope s_nexts_of) := ⟨rfl, rfl, rfl, by decide +kernel, rfl, by decide +kernel, by decide +kernel⟩
noncomputable def b_nexts_of : MS := (sSeq (sAsg (gTup (gsLenOk 2 (gsCons (gName 1) (gsCons (gName 2) gsNil)))) (eVar 0))
  (sSeq (sSet 3 (eLc true [4] (iRng1 (aCons (eVar 1) aNil)) (gName 4) tTrue (eLst true aNil)))
  (sSeq (sFor (iSeq (eVar 2)) (gTup (gsLenOk 2 (gsCons (gName 5) (gsCons (gName 6) gsNil)))) (sSeq (sExpr (eMeth fApp (eIt (eVar 3) (eVar 5)) (aCons (eVar 6) aNil)))
  (sSeq (sExpr (eMeth fApp (eIt (eVar 3) (eVar 6)) (aCons (eVar 5) aNil)))
  sNil)) [5, 6])
  (sSeq (sRet (eVar 3))
  sNil))))
noncomputable def m_nexts_of : FA := fnR 1 7 false b_nexts_of
theorem c_nexts_of  (DD : Dfn K mg "nexts_of" s_nexts_of ["graph"]) (n : Nm mg) (g : Gm mg)  : Fn P w K mg base 1 "nexts_of" m_nexts_of :=
  nfun (k := 0) DD sc_nexts_of fun f cdv A outer s H E hr => by
  have hu := hr.units
  have nd := sc_nexts_of.nd
  exact (ns_seq (ns_asg (vs := [1, 2]) (n_var 0) (ng_tup (ngs_cons (ng_name 1 nd) (ngs_cons (ng_name 2 nd) ngs_nil))))
  (ns_seq (ns_setLc 3 (ni_rng1 (n_cons (n_var 1) n_nil) n.n_range) (fun z => (ng_name 4 nd)) (fun z => nts_nil) (fun z => (n_lst n_nil)) nd (blkOk_by (own := [("_", 4)]) (by kernel_rfl)))
  (ns_seq (ns_for (vs := [5, 6]) (ni_seq (n_var 2)) (ng_tup (ngs_cons (ng_name 5 nd) (ngs_cons (ng_name 6 nd) ngs_nil))) (ns_seq (ns_expr (n_meth f_app (n_it hu (n_var 3) (n_var 5)) (n_cons (n_var 6) n_nil) PySem.F.slot_list_append PySem.F.type_list_append))
  (ns_seq (ns_expr (n_meth f_app (n_it hu (n_var 3) (n_var 6)) (n_cons (n_var 5) n_nil) PySem.F.slot_list_append PySem.F.type_list_append))
  ns_nil)) PassesOwn.never)
  (ns_seq (ns_ret (n_var 3))
  ns_nil))))
abbrev s_pieces_of : Stmt := topS 4
theorem sc_pieces_of : FnScope ["nexts", "places", "left", "found", "piece", "at", "other", "place"] ["nexts", "places"] (defScope s_pieces_of) := ⟨rfl, rfl, rfl, by decide +kernel, rfl, by decide +kernel, by decide +kernel⟩
noncomputable def b_pieces_of : MS := (sSeq (sPar [2, 3] (aCons (eCall (bSorted false) (aCons (eVar 1) aNil)) (aCons (eLst true aNil) aNil)))
  (sSeq (sWhile (tVal (eVar 2)) (sSeq (sPar [4, 5] (aCons (eLst true (aCons (eIt (eVar 2) (eC (.int 0))) aNil)) (aCons (eC (.int 0)) aNil)))
  (sSeq (sWhile (tCmp cLt (eVar 5) (eCall bLen (aCons (eVar 4) aNil))) (sSeq (sAug 4 oIadd (eLc false [6] (iSeq (eIt (eVar 0) (eIt (eVar 4) (eVar 5)))) (gName 6) (tAnd (tCmp (cIn false) (eVar 6) (eVar 2)) (tCmp (cIn true) (eVar 6) (eVar 4))) (eVar 6)))
  (sSeq (sAug 5 oIadd (eC (.int 1)))
  sNil)) [])
  (sSeq (sExpr (eMeth fApp (eVar 3) (aCons (eCall (bSorted false) (aCons (eVar 4) aNil)) aNil)))
  (sSeq (sSet 2 (eLc false [7] (iSeq (eVar 2)) (gName 7) (tCmp (cIn true) (eVar 7) (eVar 4)) (eVar 7)))
  sNil)))) [4, 5])
  (sSeq (sRet (eVar 3))
  sNil)))
noncomputable def m_pieces_of : FA := fnR 2 8 false b_pieces_of
theorem c_pieces_of  (DD : Dfn K mg "pieces_of" s_pieces_of ["nexts", "places"]) (n : Nm mg) (g : Gm mg)  : Fn P w K mg base 1 "pieces_of" m_pieces_of :=
  nfun (k := 0) DD sc_pieces_of fun f cdv A outer s H E hr => by
  have hu := hr.units
  have nd := sc_pieces_of.nd
  exact (ns_seq (ns_parC2 2 3 (n_cons (n_callB (b_sorted hu) (n_cons (n_var 1) n_nil) n.n_sorted) (n_cons (n_lst n_nil) n_nil)) nd)
  (ns_seq (ns_while (nt_val (n_var 2)) (ns_seq (ns_parC2 4 5 (n_cons (n_lst (n_cons (n_it hu (n_var 2) n_int) n_nil)) (n_cons n_int n_nil)) nd)
  (ns_seq (ns_while (nt_cmp c_lt (n_var 5) (n_callB b_len (n_cons (n_var 4) n_nil) n.n_len)) (ns_seq (ns_aug io_add 4 (n_lc (ni_seq (n_it hu (n_var 0) (n_it hu (n_var 4) (n_var 5)))) (fun z => (ng_name 6 nd)) (fun z => (nts_one (nt_bo (nw_and (nt_in (.inl ⟨rfl, rfl⟩) hu (n_var 6) (n_var 2)) (nw_and1 (nt_in (.inr ⟨rfl, rfl⟩) hu (n_var 6) (n_var 4))))))) (fun z => (n_var 6)) nd (blkOk_by (own := [("other", 6)]) (by kernel_rfl))) nd)
  (ns_seq (ns_aug io_add 5 n_int nd)
  ns_nil)) PassesOwn.never)
  (ns_seq (ns_expr (n_meth f_app (n_var 3) (n_cons (n_callB (b_sorted hu) (n_cons (n_var 4) n_nil) n.n_sorted) n_nil) PySem.F.slot_list_append PySem.F.type_list_append))
  (ns_seq (ns_set 2 (n_lc (ni_seq (n_var 2)) (fun z => (ng_name 7 nd)) (fun z => (nts_one (nt_in (.inr ⟨rfl, rfl⟩) hu (n_var 7) (n_var 4)))) (fun z => (n_var 7)) nd (blkOk_by (own := [("place", 7)]) (by kernel_rfl))) nd)
  ns_nil)))) PassesOwn.never)
  (ns_seq (ns_ret (n_var 3))
  ns_nil)))
abbrev s_Kayles___init__ : Stmt := inClass (topS 6) 0
theorem sc_Kayles___init__ : FnScope ["self", "graph", "by_edges"] ["self", "graph", "by_edges"] (defScope s_Kayles___init__) := ⟨rfl, rfl, rfl, by decide +kernel, rfl, by decide +kernel, by decide +kernel⟩
noncomputable def b_Kayles___init__ (C_Kayles : Addr) : MS := (sSeq (sAttr C_Kayles "nexts" (eVar 0) (eCall m_nexts_of (aCons (eVar 1) aNil)))
  (sSeq (sAttr C_Kayles "by_edges" (eVar 0) (eVar 2))
  (sSeq (sAttr C_Kayles "known" (eVar 0) eDic)
  sNil)))
noncomputable def m_Kayles___init__ (C_Kayles : Addr) : FA := fnR 3 3 false (b_Kayles___init__ C_Kayles)
theorem c_Kayles___init__  {C_Kayles : Addr} (DD : DfnM K C_Kayles "__init__" "Kayles.__init__" s_Kayles___init__ ["self", "graph", "by_edges"]) (n : Nm mg) (g : Gm mg) (t_Kayles : Cl_Kayles K mg C_Kayles) (h_nexts_of : Fn P w K mg base 1 "nexts_of" m_nexts_of) : FnM P w K mg base 2 C_Kayles "__init__" (m_Kayles___init__ C_Kayles) :=
  nfunM (k := 1) DD sc_Kayles___init__ fun f cdv A outer s H E hr => by
  have hu := hr.units
  have nd := sc_Kayles___init__.nd
  exact (ns_seq (ns_attr t_Kayles.mkn.cl t_Kayles.n_nexts (n_call h_nexts_of (n_cons (n_var 1) n_nil) hr) (n_var 0))
  (ns_seq (ns_attr t_Kayles.mkn.cl t_Kayles.n_by_edges (n_var 2) (n_var 0))
  (ns_seq (ns_attr t_Kayles.mkn.cl t_Kayles.n_known n_dic (n_var 0))
  ns_nil)))
abbrev s_Kayles_behind : Stmt := inClass (topS 6) 1
theorem sc_Kayles_behind : FnScope ["self", "places", "found", "place", "near", "other", "mate"] ["self", "places"] (defScope s_Kayles_behind) := ⟨rfl, rfl, rfl, by decide +kernel, rfl, by decide +kernel, by decide +kernel⟩
noncomputable def b_Kayles_behind (C_Kayles : Addr) : MS := (sSeq (sSet 2 (eLst true aNil))
  (sSeq (sFor (iSeq (eVar 1)) (gName 3) (sSeq (sSet 4 (eLc false [5] (iSeq (eIt (eAttr C_Kayles "nexts" (eVar 0)) (eVar 3))) (gName 5) (tCmp (cIn false) (eVar 5) (eVar 1)) (eVar 5)))
  (sSeq (sIf (tNot (tVal (eAttr C_Kayles "by_edges" (eVar 0)))) (sSeq (sExpr (eMeth fApp (eVar 2) (aCons (eLc false [5] (iSeq (eVar 1)) (gName 5) (tAnd (tCmp cNe (eVar 5) (eVar 3)) (tCmp (cIn true) (eVar 5) (eVar 4))) (eVar 5)) aNil)))
  sNil) (sSeq (sFor (iSeq (eVar 4)) (gName 6) (sSeq (sIf (tCmp cGt (eVar 6) (eVar 3)) (sSeq (sExpr (eMeth fApp (eVar 2) (aCons (eLc false [5] (iSeq (eVar 1)) (gName 5) (tCmp (cIn true) (eVar 5) (eTup (aCons (eVar 3) (aCons (eVar 6) aNil)))) (eVar 5)) aNil)))
  sNil) sNil)
  sNil) [6])
  sNil))
  sNil)) [3, 4, 6])
  (sSeq (sRet (eVar 2))
  sNil)))
noncomputable def m_Kayles_behind (C_Kayles : Addr) : FA := fnR 2 7 false (b_Kayles_behind C_Kayles)
theorem c_Kayles_behind  {C_Kayles : Addr} (DD : DfnM K C_Kayles "behind" "Kayles.behind" s_Kayles_behind ["self", "places"]) (n : Nm mg) (g : Gm mg) (t_Kayles : Cl_Kayles K mg C_Kayles)  : FnM P w K mg base 1 C_Kayles "behind" (m_Kayles_behind C_Kayles) :=
  nfunM (k := 0) DD sc_Kayles_behind fun f cdv A outer s H E hr => by
  have hu := hr.units
  have nd := sc_Kayles_behind.nd
  exact (ns_seq (ns_set 2 (n_lst n_nil) nd)
  (ns_seq (ns_for (vs := [3]) (ni_seq (n_var 1)) (ng_name 3 nd) (ns_seq (ns_set 4 (n_lc (ni_seq (n_it hu (n_attr t_Kayles.mkn.cl t_Kayles.n_nexts (n_var 0)) (n_var 3))) (fun z => (ng_name 5 nd)) (fun z => (nts_one (nt_in (.inl ⟨rfl, rfl⟩) hu (n_var 5) (n_var 1)))) (fun z => (n_var 5)) nd (blkOk_by (own := [("other", 5)]) (by kernel_rfl))) nd)
  (ns_seq (ns_if (nt_not (nt_val (n_attr t_Kayles.mkn.cl t_Kayles.n_by_edges (n_var 0)))) (ns_seq (ns_expr (n_meth f_app (n_var 2) (n_cons (n_lc (ni_seq (n_var 1)) (fun z => (ng_name 5 nd)) (fun z => (nts_one (nt_bo (nw_and (nt_cmp (c_ne hu) (n_var 5) (n_var 3)) (nw_and1 (nt_in (.inr ⟨rfl, rfl⟩) hu (n_var 5) (n_var 4))))))) (fun z => (n_var 5)) nd (blkOk_by (own := [("other", 5)]) (by kernel_rfl))) n_nil) PySem.F.slot_list_append PySem.F.type_list_append))
  ns_nil) (ns_seq (ns_for (vs := [6]) (ni_seq (n_var 4)) (ng_name 6 nd) (ns_seq (ns_if (nt_cmp c_gt (n_var 6) (n_var 3)) (ns_seq (ns_expr (n_meth f_app (n_var 2) (n_cons (n_lc (ni_seq (n_var 1)) (fun z => (ng_name 5 nd)) (fun z => (nts_one (nt_in (.inr ⟨rfl, rfl⟩) hu (n_var 5) (n_tup (n_cons (n_var 3) (n_cons (n_var 6) n_nil)))))) (fun z => (n_var 5)) nd (blkOk_by (own := [("other", 5)]) (by kernel_rfl))) n_nil) PySem.F.slot_list_append PySem.F.type_list_append))
  ns_nil) ns_nil)
  ns_nil) PassesOwn.never)
  ns_nil))
  ns_nil)) PassesOwn.never)
  (ns_seq (ns_ret (n_var 2))
  ns_nil)))
abbrev s_Kayles_value : Stmt := inClass (topS 6) 2
theorem sc_Kayles_value : FnScope ["self", "places", "found", "piece", "key", "rest"] ["self", "places"] (defScope s_Kayles_value) := ⟨rfl, rfl, rfl, by decide +kernel, rfl, by decide +kernel, by decide +kernel⟩
noncomputable def b_Kayles_value (C_Kayles : Addr) (rec : FA) : MS := (sSeq (sSet 2 (eC (.int 0)))
  (sSeq (sFor (iSeq (eCall m_pieces_of (aCons (eAttr C_Kayles "nexts" (eVar 0)) (aCons (eVar 1) aNil)))) (gName 3) (sSeq (sSet 4 (eCall bTuple (aCons (eVar 3) aNil)))
  (sSeq (sIf (tCmp (cIn true) (eVar 4) (eAttr C_Kayles "known" (eVar 0))) (sSeq (sPu (eAttr C_Kayles "known" (eVar 0)) (eVar 4) (eCall m_least_missing (aCons (eLc false [5] (iSeq (eMethC C_Kayles "behind" (m_Kayles_behind C_Kayles) (eVar 0) (aCons (eVar 3) aNil))) (gName 5) tTrue (eMethC C_Kayles "value" rec (eVar 0) (aCons (eVar 5) aNil))) aNil)))
  sNil) sNil)
  (sSeq (sAug 2 oXor (eIt (eAttr C_Kayles "known" (eVar 0)) (eVar 4)))
  sNil))) [3, 4])
  (sSeq (sRet (eVar 2))
  sNil)))
noncomputable def m_Kayles_value (C_Kayles : Addr) : Nat → FA
  | 0 => fun _ _ => none
  | n + 1 => fnR 2 6 false (b_Kayles_value C_Kayles (m_Kayles_value C_Kayles n))
theorem cb_Kayles_value  {C_Kayles : Addr} (DD : DfnM K C_Kayles "value" "Kayles.value" s_Kayles_value ["self", "places"]) (n : Nm mg) (g : Gm mg) (t_Kayles : Cl_Kayles K mg C_Kayles) (h_Kayles_behind : FnM P w K mg base 1 C_Kayles "behind" (m_Kayles_behind C_Kayles)) (h_least_missing : Fn P w K mg base 1 "least_missing" m_least_missing) (h_pieces_of : Fn P w K mg base 1 "pieces_of" m_pieces_of) {k : Nat} {rec : FA} (h_Kayles_value : FnM P w K mg base (2 + k) C_Kayles "value" rec) : FnM P w K mg base (2 + (k + 1)) C_Kayles "value" (fnR 2 6 false (b_Kayles_value C_Kayles rec)) :=
  nfunM (k := 2 + k) DD sc_Kayles_value fun f cdv A outer s H E hr => by
  have hu := hr.units
  have nd := sc_Kayles_value.nd
  exact (ns_seq (ns_set 2 n_int nd)
  (ns_seq (ns_for (vs := [3]) (ni_seq (n_call h_pieces_of (n_cons (n_attr t_Kayles.mkn.cl t_Kayles.n_nexts (n_var 0)) (n_cons (n_var 1) n_nil)) hr)) (ng_name 3 nd) (ns_seq (ns_set 4 (n_callT b_tuple (n_cons (n_var 3) n_nil) n.n_tuple) nd)
  (ns_seq (ns_if (nt_in (.inr ⟨rfl, rfl⟩) hu (n_var 4) (n_attr t_Kayles.mkn.cl t_Kayles.n_known (n_var 0))) (ns_seq (ns_pu hu (n_call h_least_missing (n_cons (n_lc (ni_seq (n_methC t_Kayles.mkn.cl h_Kayles_behind (n_var 0) (n_cons (n_var 3) n_nil) hr)) (fun z => (ng_name 5 nd)) (fun z => nts_nil) (fun z => (n_methC t_Kayles.mkn.cl h_Kayles_value (n_var 0) (n_cons (n_var 5) n_nil) hr)) nd (blkOk_by (own := [("rest", 5)]) (by kernel_rfl))) n_nil) hr) (n_attr t_Kayles.mkn.cl t_Kayles.n_known (n_var 0)) (n_var 4))
  ns_nil) ns_nil)
  (ns_seq (ns_aug io_xor 2 (n_it hu (n_attr t_Kayles.mkn.cl t_Kayles.n_known (n_var 0)) (n_var 4)) nd)
  ns_nil))) PassesOwn.never)
  (ns_seq (ns_ret (n_var 2))
  ns_nil)))
theorem c_Kayles_value  {C_Kayles : Addr} (DD : DfnM K C_Kayles "value" "Kayles.value" s_Kayles_value ["self", "places"]) (n : Nm mg) (g : Gm mg) (t_Kayles : Cl_Kayles K mg C_Kayles) (h_Kayles_behind : FnM P w K mg base 1 C_Kayles "behind" (m_Kayles_behind C_Kayles)) (h_least_missing : Fn P w K mg base 1 "least_missing" m_least_missing) (h_pieces_of : Fn P w K mg base 1 "pieces_of" m_pieces_of) : ∀ k : Nat, FnM P w K mg base (2 + k) C_Kayles "value" (m_Kayles_value C_Kayles k)
  | 0 => (nfunM_none (k := 0) DD sc_Kayles_value).mono (by omega)
  | k + 1 => cb_Kayles_value DD n g t_Kayles h_Kayles_behind h_least_missing h_pieces_of (c_Kayles_value DD n g t_Kayles h_Kayles_behind h_least_missing h_pieces_of k)
abbrev s_kayles_value : Stmt := topS 7
theorem sc_kayles_value : FnScope ["graph"] ["graph"] (defScope s_kayles_value) := ⟨rfl, rfl, rfl, by decide +kernel, rfl, by decide +kernel, by decide +kernel⟩
noncomputable def b_kayles_value (C_Kayles : Addr) : MS := (sSeq (sRet (eMethC C_Kayles "value" (m_Kayles_value C_Kayles 14) (eNew C_Kayles (m_Kayles___init__ C_Kayles) (aCons (eVar 0) (aCons (eC (.bool false)) aNil))) (aCons (eLstR false (eIt (eVar 0) (eC (.int 0)))) aNil)))
  sNil)
noncomputable def m_kayles_value (C_Kayles : Addr) : FA := fnR 1 1 false (b_kayles_value C_Kayles)
theorem c_kayles_value  {C_Kayles : Addr} (DD : Dfn K mg "kayles_value" s_kayles_value ["graph"]) (n : Nm mg) (g : Gm mg) (t_Kayles : Cl_Kayles K mg C_Kayles) (h_Kayles___init__ : FnM P w K mg base 2 C_Kayles "__init__" (m_Kayles___init__ C_Kayles)) (h_Kayles_value : FnM P w K mg base 16 C_Kayles "value" (m_Kayles_value C_Kayles 14)) : Fn P w K mg base 17 "kayles_value" (m_kayles_value C_Kayles) :=
  nfun (k := 16) DD sc_kayles_value fun f cdv A outer s H E hr => by
  have hu := hr.units
  have nd := sc_kayles_value.nd
  exact (ns_seq (ns_ret (n_methC t_Kayles.mkn.cl h_Kayles_value (n_new t_Kayles.mkn h_Kayles___init__ (n_cons (n_var 0) (n_cons n_bl n_nil)) hr) (n_cons (n_lstR rfl (n_it hu (n_var 0) n_int) n.n_list n.n_range) n_nil) hr))
  ns_nil)
abbrev s_edge_kayles_value : Stmt := topS 8
theorem sc_edge_kayles_value : FnScope ["graph"] ["graph"] (defScope s_edge_kayles_value) := ⟨rfl, rfl, rfl, by decide +kernel, rfl, by decide +kernel, by decide +kernel⟩
noncomputable def b_edge_kayles_value (C_Kayles : Addr) : MS := (sSeq (sRet (eMethC C_Kayles "value" (m_Kayles_value C_Kayles 14) (eNew C_Kayles (m_Kayles___init__ C_Kayles) (aCons (eVar 0) (aCons (eC (.bool true)) aNil))) (aCons (eLstR false (eIt (eVar 0) (eC (.int 0)))) aNil)))
  sNil)
noncomputable def m_edge_kayles_value (C_Kayles : Addr) : FA := fnR 1 1 false (b_edge_kayles_value C_Kayles)
theorem c_edge_kayles_value  {C_Kayles : Addr} (DD : Dfn K mg "edge_kayles_value" s_edge_kayles_value ["graph"]) (n : Nm mg) (g : Gm mg) (t_Kayles : Cl_Kayles K mg C_Kayles) (h_Kayles___init__ : FnM P w K mg base 2 C_Kayles "__init__" (m_Kayles___init__ C_Kayles)) (h_Kayles_value : FnM P w K mg base 16 C_Kayles "value" (m_Kayles_value C_Kayles 14)) : Fn P w K mg base 17 "edge_kayles_value" (m_edge_kayles_value C_Kayles) :=
  nfun (k := 16) DD sc_edge_kayles_value fun f cdv A outer s H E hr => by
  have hu := hr.units
  have nd := sc_edge_kayles_value.nd
  exact (ns_seq (ns_ret (n_methC t_Kayles.mkn.cl h_Kayles_value (n_new t_Kayles.mkn h_Kayles___init__ (n_cons (n_var 0) (n_cons n_bl n_nil)) hr) (n_cons (n_lstR rfl (n_it hu (n_var 0) n_int) n.n_list n.n_range) n_nil) hr))
  ns_nil)
abbrev s_kayles_moves : Stmt := topS 9
theorem sc_kayles_moves : FnScope ["graph", "game", "found", "place", "rest", "other"] ["graph"] (defScope s_kayles_moves) := ⟨rfl, rfl, rfl, by decide +kernel, rfl, by decide +kernel, by decide +kernel⟩
noncomputable def b_kayles_moves (C_Kayles : Addr) : MS := (sSeq (sPar [1, 2] (aCons (eNew C_Kayles (m_Kayles___init__ C_Kayles) (aCons (eVar 0) (aCons (eC (.bool false)) aNil))) (aCons (eLst true aNil) aNil)))
  (sSeq (sFor (iRng1 (aCons (eIt (eVar 0) (eC (.int 0))) aNil)) (gName 3) (sSeq (sSet 4 (eLc false [5] (iRng1 (aCons (eIt (eVar 0) (eC (.int 0))) aNil)) (gName 5) (tAnd (tCmp cNe (eVar 5) (eVar 3)) (tCmp (cIn true) (eVar 5) (eIt (eAttr C_Kayles "nexts" (eVar 1)) (eVar 3)))) (eVar 5)))
  (sSeq (sIf (tCmp cEq (eMethC C_Kayles "value" (m_Kayles_value C_Kayles 14) (eVar 1) (aCons (eVar 4) aNil)) (eC (.int 0))) (sSeq (sExpr (eMeth fApp (eVar 2) (aCons (eVar 3) aNil)))
  sNil) sNil)
  sNil)) [3, 4])
  (sSeq (sRet (eCall bTuple (aCons (eVar 2) aNil)))
  sNil)))
noncomputable def m_kayles_moves (C_Kayles : Addr) : FA := fnR 1 6 false (b_kayles_moves C_Kayles)
theorem c_kayles_moves  {C_Kayles : Addr} (DD : Dfn K mg "kayles_moves" s_kayles_moves ["graph"]) (n : Nm mg) (g : Gm mg) (t_Kayles : Cl_Kayles K mg C_Kayles) (h_Kayles___init__ : FnM P w K mg base 2 C_Kayles "__init__" (m_Kayles___init__ C_Kayles)) (h_Kayles_value : FnM P w K mg base 16 C_Kayles "value" (m_Kayles_value C_Kayles 14)) : Fn P w K mg base 17 "kayles_moves" (m_kayles_moves C_Kayles) :=
  nfun (k := 16) DD sc_kayles_moves fun f cdv A outer s H E hr => by
  have hu := hr.units
  have nd := sc_kayles_moves.nd
  exact (ns_seq (ns_parC2 1 2 (n_cons (n_new t_Kayles.mkn h_Kayles___init__ (n_cons (n_var 0) (n_cons n_bl n_nil)) hr) (n_cons (n_lst n_nil) n_nil)) nd)
  (ns_seq (ns_for (vs := [3]) (ni_rng1 (n_cons (n_it hu (n_var 0) n_int) n_nil) n.n_range) (ng_name 3 nd) (ns_seq (ns_setLc 4 (ni_rng1 (n_cons (n_it hu (n_var 0) n_int) n_nil) n.n_range) (fun z => (ng_name 5 nd)) (fun z => (nts_one (nt_bo (nw_and (nt_cmp (c_ne hu) (n_var 5) (n_var 3)) (nw_and1 (nt_in (.inr ⟨rfl, rfl⟩) hu (n_var 5) (n_it hu (n_attr t_Kayles.mkn.cl t_Kayles.n_nexts (n_var 1)) (n_var 3)))))))) (fun z => (n_var 5)) nd (blkOk_by (own := [("other", 5)]) (by kernel_rfl)))
  (ns_seq (ns_if (nt_cmp (c_eq hu) (n_methC t_Kayles.mkn.cl h_Kayles_value (n_var 1) (n_cons (n_var 4) n_nil) hr) n_int) (ns_seq (ns_expr (n_meth f_app (n_var 2) (n_cons (n_var 3) n_nil) PySem.F.slot_list_append PySem.F.type_list_append))
  ns_nil) ns_nil)
  ns_nil)) PassesOwn.never)
  (ns_seq (ns_ret (n_callT b_tuple (n_cons (n_var 2) n_nil) n.n_tuple))
  ns_nil)))
abbrev s_edge_kayles_moves : Stmt := topS 10
theorem sc_edge_kayles_moves : FnScope ["graph", "game", "found", "k", "edge", "other"] ["graph"] (defScope s_edge_kayles_moves) := ⟨rfl, rfl, rfl, by decide +kernel, rfl, by decide +kernel, by decide +kernel⟩
noncomputable def b_edge_kayles_moves (C_Kayles : Addr) : MS := (sSeq (sPar [1, 2] (aCons (eNew C_Kayles (m_Kayles___init__ C_Kayles) (aCons (eVar 0) (aCons (eC (.bool true)) aNil))) (aCons (eLst true aNil) aNil)))
  (sSeq (sFor (iEnum (aCons (eIt (eVar 0) (eC (.int 1))) aNil)) (gTup (gsLenOk 2 (gsCons (gName 3) (gsCons (gName 4) gsNil)))) (sSeq (sIf (tCmp cEq (eMethC C_Kayles "value" (m_Kayles_value C_Kayles 14) (eVar 1) (aCons (eLc false [5] (iRng1 (aCons (eIt (eVar 0) (eC (.int 0))) aNil)) (gName 5) (tCmp (cIn true) (eVar 5) (eVar 4)) (eVar 5)) aNil)) (eC (.int 0))) (sSeq (sExpr (eMeth fApp (eVar 2) (aCons (eVar 3) aNil)))
  sNil) sNil)
  sNil) [3, 4])
  (sSeq (sRet (eCall bTuple (aCons (eVar 2) aNil)))
  sNil)))
noncomputable def m_edge_kayles_moves (C_Kayles : Addr) : FA := fnR 1 6 false (b_edge_kayles_moves C_Kayles)
theorem c_edge_kayles_moves  {C_Kayles : Addr} (DD : Dfn K mg "edge_kayles_moves" s_edge_kayles_moves ["graph"]) (n : Nm mg) (g : Gm mg) (t_Kayles : Cl_Kayles K mg C_Kayles) (h_Kayles___init__ : FnM P w K mg base 2 C_Kayles "__init__" (m_Kayles___init__ C_Kayles)) (h_Kayles_value : FnM P w K mg base 16 C_Kayles "value" (m_Kayles_value C_Kayles 14)) : Fn P w K mg base 17 "edge_kayles_moves" (m_edge_kayles_moves C_Kayles) :=
  nfun (k := 16) DD sc_edge_kayles_moves fun f cdv A outer s H E hr => by
  have hu := hr.units
  have nd := sc_edge_kayles_moves.nd
  exact (ns_seq (ns_par2 1 2 (n_cons (n_new t_Kayles.mkn h_Kayles___init__ (n_cons (n_var 0) (n_cons n_bl n_nil)) hr) (n_cons (n_lst n_nil) n_nil)) nd)
  (ns_seq (ns_for (vs := [3, 4]) (ni_enum (n_cons (n_it hu (n_var 0) n_int) n_nil) n.n_enumerate) (ng_tup (ngs_cons (ng_name 3 nd) (ngs_cons (ng_name 4 nd) ngs_nil))) (ns_seq (ns_if (nt_cmp (c_eq hu) (n_methC t_Kayles.mkn.cl h_Kayles_value (n_var 1) (n_cons (n_lc (ni_rng1 (n_cons (n_it hu (n_var 0) n_int) n_nil) n.n_range) (fun z => (ng_name 5 nd)) (fun z => (nts_one (nt_in (.inr ⟨rfl, rfl⟩) hu (n_var 5) (n_var 4)))) (fun z => (n_var 5)) nd (blkOk_by (own := [("other", 5)]) (by kernel_rfl))) n_nil) hr) n_int) (ns_seq (ns_expr (n_meth f_app (n_var 2) (n_cons (n_var 3) n_nil) PySem.F.slot_list_append PySem.F.type_list_append))
  ns_nil) ns_nil)
  ns_nil) PassesOwn.never)
  (ns_seq (ns_ret (n_callT b_tuple (n_cons (n_var 2) n_nil) n.n_tuple))
  ns_nil)))
abbrev s_code_values : Stmt := topS 12
theorem sc_code_values : FnScope ["code", "n", "found", "size", "numbers", "j", "digit", "rest", "a"] ["code", "n"] (defScope s_code_values) := ⟨rfl, rfl, rfl, by decide +kernel, rfl, by decide +kernel, by decide +kernel⟩
theorem c_code_values  (DD : Dfn K mg "code_values" s_code_values ["code", "n"]) (n : Nm mg) (g : Gm mg) (h_least_missing : Fn P w K mg base 1 "least_missing" m_least_missing) : Fn P w K mg base 2 "code_values" m_code_values :=
  nfun (k := 1) DD sc_code_values fun f cdv A outer s H E hr => by
  have hu := hr.units
  have nd := sc_code_values.nd
  exact (ns_seq (ns_set 2 (n_lst n_nil) nd)
  (ns_seq (ns_for (vs := [3]) (ni_rng1 (n_cons (n_bin o_add (n_var 1) n_int) n_nil) n.n_range) (ng_name 3 nd) (ns_seq (ns_set 4 (n_lst n_nil) nd)
  (ns_seq (ns_for (vs := [5, 6]) (ni_enum (n_cons (n_var 0) n_nil) n.n_enumerate) (ng_tup (ngs_cons (ng_name 5 nd) (ngs_cons (ng_name 6 nd) ngs_nil))) (ns_seq (ns_set 7 (n_bin o_sub (n_bin o_sub (n_var 3) (n_var 5)) n_int) nd)
  (ns_seq (ns_if (nt_bo (nw_and (nt_cmp (c_eq hu) (n_var 7) n_int) (nw_and1 (nt_cmp (c_eq hu) (n_bin o_mod (n_var 6) n_int) n_int)))) (ns_seq (ns_expr (n_meth f_app (n_var 4) (n_cons n_int n_nil) PySem.F.slot_list_append PySem.F.type_list_append))
  ns_nil) ns_nil)
  (ns_seq (ns_if (nt_bo (nw_and (nt_cmp c_ge (n_var 7) n_int) (nw_and1 (nt_cmp (c_eq hu) (n_bin o_mod (n_bin o_div (n_var 6) n_int) n_int) n_int)))) (ns_seq (ns_expr (n_meth f_app (n_var 4) (n_cons (n_it hu (n_var 2) (n_var 7)) n_nil) PySem.F.slot_list_append PySem.F.type_list_append))
  ns_nil) ns_nil)
  (ns_seq (ns_if (nt_bo (nw_and (nt_cmp c_ge (n_var 7) n_int) (nw_and1 (nt_cmp (c_eq hu) (n_bin o_div (n_var 6) n_int) n_int)))) (ns_seq (ns_expr (n_meth f_ext (n_var 4) (n_cons (n_lc (ni_rng2 (n_cons n_int (n_cons (n_bin o_add (n_bin o_div (n_var 7) n_int) n_int) n_nil)) n.n_range) (fun z => (ng_name 8 nd)) (fun z => nts_nil) (fun z => (n_bin o_xor (n_it hu (n_var 2) (n_var 8)) (n_it hu (n_var 2) (n_bin o_sub (n_var 7) (n_var 8))))) nd (blkOk_by (own := [("a", 8)]) (by kernel_rfl))) n_nil) PySem.F.slot_list_extend PySem.F.type_list_extend))
  ns_nil) ns_nil)
  ns_nil)))) PassesOwn.never)
  (ns_seq (ns_expr (n_meth f_app (n_var 2) (n_cons (n_call h_least_missing (n_cons (n_var 4) n_nil) hr) n_nil) PySem.F.slot_list_append PySem.F.type_list_append))
  ns_nil))) PassesOwn.never)
  (ns_seq (ns_ret (n_callT b_tuple (n_cons (n_var 2) n_nil) n.n_tuple))
  ns_nil)))
abbrev s__law_flat : Stmt := topS 14
theorem sc__law_flat : FnScope ["rows", "found", "row"] ["rows"] (defScope s__law_flat) := ⟨rfl, rfl, rfl, by decide +kernel, rfl, by decide +kernel, by decide +kernel⟩
noncomputable def b__law_flat : MS := (sSeq (sSet 1 (eLst true aNil))
  (sSeq (sFor (iSeq (eVar 0)) (gName 2) (sSeq (sExpr (eMeth fExt (eVar 1) (aCons (eVar 2) aNil)))
  sNil) [2])
  (sSeq (sRet (eVar 1))
  sNil)))
noncomputable def m__law_flat : FA := fnR 1 3 false b__law_flat
theorem c__law_flat  (DD : Dfn K mg "_law_flat" s__law_flat ["rows"]) (n : Nm mg) (g : Gm mg)  : Fn P w K mg base 1 "_law_flat" m__law_flat :=
  nfun (k := 0) DD sc__law_flat fun f cdv A outer s H E hr => by
  have hu := hr.units
  have nd := sc__law_flat.nd
  exact (ns_seq (ns_set 1 (n_lst n_nil) nd)
  (ns_seq (ns_for (vs := [2]) (ni_seq (n_var 0)) (ng_name 2 nd) (ns_seq (ns_expr (n_meth f_ext (n_var 1) (n_cons (n_var 2) n_nil) PySem.F.slot_list_extend PySem.F.type_list_extend))
  ns_nil) PassesOwn.never)
  (ns_seq (ns_ret (n_var 1))
  ns_nil)))
abbrev s__law_box : Stmt := topS 15
theorem sc__law_box : FnScope ["script"] ["script"] (defScope s__law_box) := ⟨rfl, rfl, rfl, by decide +kernel, rfl, by decide +kernel, by decide +kernel⟩
theorem c__law_box  (DD : Dfn K mg "_law_box" s__law_box ["script"]) (n : Nm mg) (g : Gm mg)  : Fn P w K mg base 1 "_law_box" m__law_box :=
  nfun (k := 0) DD sc__law_box fun f cdv A outer s H E hr => by
  have hu := hr.units
  have nd := sc__law_box.nd
  exact (ns_seq (ns_ret (n_lst (n_cons (n_callT b_list (n_cons (n_sl (n_var 0) no_none (no_some n_int)) n_nil) n.n_list) (n_cons n_int (n_cons (n_bin o_add n_int (n_callB b_len (n_cons (n_var 0) n_nil) n.n_len)) n_nil)))))
  ns_nil)
abbrev s__law_load : Stmt := topS 16
theorem sc__law_load : FnScope ["box", "cells", "cell", "size", "first", "second"] ["box"] (defScope s__law_load) := ⟨rfl, rfl, rfl, by decide +kernel, rfl, by decide +kernel, by decide +kernel⟩
theorem c__law_load  (DD : Dfn K mg "_law_load" s__law_load ["box"]) (n : Nm mg) (g : Gm mg)  : Fn P w K mg base 1 "_law_load" m__law_load :=
  nfun (k := 0) DD sc__law_load fun f cdv A outer s H E hr => by
  have hu := hr.units
  have nd := sc__law_load.nd
  exact (ns_seq (ns_set 1 (n_it hu (n_var 0) n_int) nd)
  (ns_seq (ns_if (nt_cmp c_gt (n_callB b_len (n_cons (n_var 1) n_nil) n.n_len) n_int) (ns_seq (ns_set 2 (n_callT b_int (n_cons (n_meth f_popAt (n_var 1) (n_cons n_int n_nil) PySem.F.slot_list_pop PySem.F.type_list_pop) n_nil) n.n_int) nd)
  (ns_seq (ns_set 3 (n_ite (nt_cmp c_ge (n_var 2) n_int) (n_bin o_mul n_int (n_var 2)) (n_bin o_sub (n_bin o_mul (n_neg n_int) (n_var 2)) n_int)) nd)
  (ns_seq (ns_if (nt_cmp c_ge (n_var 3) n_int) (ns_seq (ns_ret (n_var 3))
  ns_nil) ns_nil)
  (ns_seq (ns_pu hu (n_bin o_mod (n_callT b_int (n_cons (n_bin o_add (n_bin o_add (n_bin o_mul (n_it hu (n_var 0) n_int) n_int) (n_bin o_mul (n_var 3) n_int)) n_int) n_nil) n.n_int) n_int) (n_var 0) n_int)
  ns_nil)))) ns_nil)
  (ns_seq (ns_set 4 (n_bin o_mod (n_callT b_int (n_cons (n_bin o_add (n_bin o_mul (n_it hu (n_var 0) n_int) n_int) n_int) n_nil) n.n_int) n_int) nd)
  (ns_seq (ns_set 5 (n_bin o_mod (n_callT b_int (n_cons (n_bin o_add (n_bin o_mul (n_var 4) n_int) n_int) n_nil) n.n_int) n_int) nd)
  (ns_seq (ns_pu hu (n_bin o_mod (n_callT b_int (n_cons (n_bin o_add (n_bin o_mul (n_var 5) n_int) n_int) n_nil) n.n_int) n_int) (n_var 0) n_int)
  (ns_seq (ns_ret (n_bin o_add (n_bin o_add (n_bin o_mul (n_var 4) n_int) (n_bin o_mul (n_var 5) n_int)) (n_it hu (n_var 0) n_int)))
  ns_nil))))))
abbrev s__law_draw : Stmt := topS 17
theorem sc__law_draw : FnScope ["box", "many", "digit"] ["box", "many"] (defScope s__law_draw) := ⟨rfl, rfl, rfl, by decide +kernel, rfl, by decide +kernel, by decide +kernel⟩
theorem c__law_draw  (DD : Dfn K mg "_law_draw" s__law_draw ["box", "many"]) (n : Nm mg) (g : Gm mg) (h__law_load : Fn P w K mg base 1 "_law_load" m__law_load) : Fn P w K mg base 2 "_law_draw" m__law_draw :=
  nfun (k := 1) DD sc__law_draw fun f cdv A outer s H E hr => by
  have hu := hr.units
  have nd := sc__law_draw.nd
  exact (ns_seq (ns_if (nt_cmp c_lt (n_it hu (n_var 0) n_int) (n_var 1)) (ns_seq (ns_pu hu (n_call h__law_load (n_cons (n_var 0) n_nil) hr) (n_var 0) n_int)
  ns_nil) ns_nil)
  (ns_seq (ns_set 2 (n_bin o_mod (n_callT b_int (n_cons (n_it hu (n_var 0) n_int) n_nil) n.n_int) (n_var 1)) nd)
  (ns_seq (ns_pu hu (n_bin o_div (n_it hu (n_var 0) n_int) (n_var 1)) (n_var 0) n_int)
  (ns_seq (ns_ret (n_var 2))
  ns_nil))))
abbrev s__law_same : Stmt := topS 18
theorem sc__law_same : FnScope ["a", "b", "k"] ["a", "b"] (defScope s__law_same) := ⟨rfl, rfl, rfl, by decide +kernel, rfl, by decide +kernel, by decide +kernel⟩
theorem cb__law_same  (DD : Dfn K mg "_law_same" s__law_same ["a", "b"]) (n : Nm mg) (g : Gm mg)  {k : Nat} {rec : FA} (h__law_same : Fn P w K mg base (1 + k) "_law_same" rec) : Fn P w K mg base (1 + (k + 1)) "_law_same" (fnR 2 3 false (b__law_same rec)) :=
  nfun (k := 1 + k) DD sc__law_same fun f cdv A outer s H E hr => by
  have hu := hr.units
  have nd := sc__law_same.nd
  exact (ns_seq (ns_if (nt_bo (nw_or (nt_bo (nw_and (nt_val (n_isi .tup (n_var 0) n.n_isinstance n.n_tuple)) (nw_and1 (nt_val (n_isi .tup (n_var 1) n.n_isinstance n.n_tuple))))) (nw_or1 (nt_bo (nw_and (nt_val (n_isi .lst (n_var 0) n.n_isinstance n.n_list)) (nw_and1 (nt_val (n_isi .lst (n_var 1) n.n_isinstance n.n_list)))))))) (ns_seq (ns_ret (n_and (n_cmp (c_eq hu) (n_callB b_len (n_cons (n_var 0) n_nil) n.n_len) (n_callB b_len (n_cons (n_var 1) n_nil) n.n_len)) (n_one (n_callB (b_all rfl) (n_cons (n_lc (ni_rng1 (n_cons (n_callB b_len (n_cons (n_var 0) n_nil) n.n_len) n_nil) n.n_range) (fun z => (ng_name 2 nd)) (fun z => nts_nil) (fun z => (n_call h__law_same (n_cons (n_it hu (n_var 0) (n_var 2)) (n_cons (n_it hu (n_var 1) (n_var 2)) n_nil)) hr)) nd (blkOk_by (own := [("k", 2)]) (by kernel_rfl))) n_nil) n.n_all))))
  ns_nil) ns_nil)
  (ns_seq (ns_if (nt_bo (nw_or (nt_val (n_isi .bl (n_var 0) n.n_isinstance n.n_bool)) (nw_or1 (nt_val (n_isi .bl (n_var 1) n.n_isinstance n.n_bool))))) (ns_seq (ns_ret (n_and (n_isi .bl (n_var 0) n.n_isinstance n.n_bool) (n_and (n_isi .bl (n_var 1) n.n_isinstance n.n_bool) (n_one (n_cmp (c_eq hu) (n_var 0) (n_var 1))))))
  ns_nil) ns_nil)
  (ns_seq (ns_if (nt_bo (nw_or (nt_bo (nw_and (nt_val (n_isi .int (n_var 0) n.n_isinstance n.n_int)) (nw_and1 (nt_val (n_isi .int (n_var 1) n.n_isinstance n.n_int))))) (nw_or1 (nt_bo (nw_and (nt_val (n_isi .str (n_var 0) n.n_isinstance n.n_str)) (nw_and1 (nt_val (n_isi .str (n_var 1) n.n_isinstance n.n_str)))))))) (ns_seq (ns_ret (n_cmp (c_eq hu) (n_var 0) (n_var 1)))
  ns_nil) ns_nil)
  (ns_seq (ns_ret (n_and (n_cmp c_is (n_var 0) n_non) (n_one (n_cmp c_is (n_var 1) n_non))))
  ns_nil))))
theorem c__law_same  (DD : Dfn K mg "_law_same" s__law_same ["a", "b"]) (n : Nm mg) (g : Gm mg)  : ∀ k : Nat, Fn P w K mg base (1 + k) "_law_same" (m__law_same k)
  | 0 => (nfun_none (k := 0) DD sc__law_same).mono (by omega)
  | k + 1 => cb__law_same DD n g  (c__law_same DD n g  k)
abbrev s__law_graph : Stmt := topS 19
theorem sc__law_graph : FnScope ["box", "most", "part", "n", "j", "i"] ["box", "most", "part"] (defScope s__law_graph) := ⟨rfl, rfl, rfl, by decide +kernel, rfl, by decide +kernel, by decide +kernel⟩
noncomputable def b__law_graph : MS := (sSeq (sSet 3 (eBin (oAdd false) (eC (.int 1)) (eCall m__law_draw (aCons (eVar 0) (aCons (eVar 1) aNil)))))
  (sSeq (sRet (eTup (aCons (eVar 3) (aCons (eCall bTuple (aCons (eCall m__law_flat (aCons (eLc false [5] (iRng1 (aCons (eVar 3) aNil)) (gName 5) tTrue (eLc false [4] (iRng2 (aCons (eBin (oAdd false) (eVar 5) (eC (.int 1))) (aCons (eVar 3) aNil))) (gName 4) (tCmp cLt (eCall m__law_draw (aCons (eVar 0) (aCons (eC (.int 6)) aNil))) (eVar 2)) (eTup (aCons (eVar 5) (aCons (eVar 4) aNil))))) aNil)) aNil)) aNil))))
  sNil))
noncomputable def m__law_graph : FA := fnR 3 6 false b__law_graph
theorem c__law_graph  (DD : Dfn K mg "_law_graph" s__law_graph ["box", "most", "part"]) (n : Nm mg) (g : Gm mg) (h__law_draw : Fn P w K mg base 2 "_law_draw" m__law_draw) (h__law_flat : Fn P w K mg base 1 "_law_flat" m__law_flat) : Fn P w K mg base 3 "_law_graph" m__law_graph :=
  nfun (k := 2) DD sc__law_graph fun f cdv A outer s H E hr => by
  have hu := hr.units
  have nd := sc__law_graph.nd
  exact (ns_seq (ns_set 3 (n_bin o_add n_int (n_call h__law_draw (n_cons (n_var 0) (n_cons (n_var 1) n_nil)) hr)) nd)
  (ns_seq (ns_ret (n_tup (n_cons (n_var 3) (n_cons (n_callT b_tuple (n_cons (n_call h__law_flat (n_cons (n_lc (ni_rng1 (n_cons (n_var 3) n_nil) n.n_range) (fun z => (ng_name 5 nd)) (fun z => nts_nil) (fun z => (n_lc (ni_rng2 (n_cons (n_bin o_add (n_var 5) n_int) (n_cons (n_var 3) n_nil)) n.n_range) (fun z => (ng_name 4 nd)) (fun z => (nts_one (nt_cmp c_lt (n_call h__law_draw (n_cons (n_var 0) (n_cons n_int n_nil)) hr) (n_var 2)))) (fun z => (n_tup (n_cons (n_var 5) (n_cons (n_var 4) n_nil)))) nd (blkOk_by (own := [("j", 4)]) (by kernel_rfl)))) nd (blkOk_by (own := [("i", 5)]) (by kernel_rfl))) n_nil) hr) n_nil) n.n_tuple) n_nil))))
  ns_nil))
abbrev s__law_near : Stmt := topS 20
theorem sc__law_near : FnScope ["graph", "place", "i", "j"] ["graph", "place"] (defScope s__law_near) := ⟨rfl, rfl, rfl, by decide +kernel, rfl, by decide +kernel, by decide +kernel⟩
noncomputable def b__law_near : MS := (sSeq (sRet (eLc false [2, 3] (iSeq (eIt (eVar 0) (eC (.int 1)))) (gTup (gsLenOk 2 (gsCons (gName 2) (gsCons (gName 3) gsNil)))) (tCmp (cIn false) (eVar 1) (eTup (aCons (eVar 2) (aCons (eVar 3) aNil)))) (eBin oSub (eBin (oAdd false) (eVar 2) (eVar 3)) (eVar 1))))
  sNil)
noncomputable def m__law_near : FA := fnR 2 4 false b__law_near
theorem c__law_near  (DD : Dfn K mg "_law_near" s__law_near ["graph", "place"]) (n : Nm mg) (g : Gm mg)  : Fn P w K mg base 1 "_law_near" m__law_near :=
  nfun (k := 0) DD sc__law_near fun f cdv A outer s H E hr => by
  have hu := hr.units
  have nd := sc__law_near.nd
  exact (ns_seq (ns_ret (n_lc (ni_seq (n_it hu (n_var 0) n_int)) (fun z => (ng_tup (ngs_cons (ng_name 2 nd) (ngs_cons (ng_name 3 nd) ngs_nil)))) (fun z => (nts_one (nt_in (.inl ⟨rfl, rfl⟩) hu (n_var 1) (n_tup (n_cons (n_var 2) (n_cons (n_var 3) n_nil)))))) (fun z => (n_bin o_sub (n_bin o_add (n_var 2) (n_var 3)) (n_var 1))) nd (blkOk_by (own := [("i", 2), ("j", 3)]) (by kernel_rfl))))
  ns_nil)
abbrev s__law_missing : Stmt := topS 21
theorem sc__law_missing : FnScope ["worths", "found"] ["worths"] (defScope s__law_missing) := ⟨rfl, rfl, rfl, by decide +kernel, rfl, by decide +kernel, by decide +kernel⟩
theorem c__law_missing  (DD : Dfn K mg "_law_missing" s__law_missing ["worths"]) (n : Nm mg) (g : Gm mg)  : Fn P w K mg base 1 "_law_missing" m__law_missing :=
  nfun (k := 0) DD sc__law_missing fun f cdv A outer s H E hr => by
  have hu := hr.units
  have nd := sc__law_missing.nd
  exact (ns_seq (ns_set 1 n_int nd)
  (ns_seq (ns_while (nt_in (.inl ⟨rfl, rfl⟩) hu (n_var 1) (n_var 0)) (ns_seq (ns_set 1 (n_bin o_add (n_var 1) n_int) nd)
  ns_nil) PassesOwn.never)
  (ns_seq (ns_ret (n_var 1))
  ns_nil)))
abbrev s__law_rest : Stmt := topS 22
theorem sc__law_rest : FnScope ["graph", "places_left", "place", "other"] ["graph", "places_left", "place"] (defScope s__law_rest) := ⟨rfl, rfl, rfl, by decide +kernel, rfl, by decide +kernel, by decide +kernel⟩
noncomputable def b__law_rest : MS := (sSeq (sRet (eCall bTuple (aCons (eLc false [3] (iSeq (eVar 1)) (gName 3) (tAnd (tCmp cNe (eVar 3) (eVar 2)) (tCmp (cIn true) (eVar 3) (eCall m__law_near (aCons (eVar 0) (aCons (eVar 2) aNil))))) (eVar 3)) aNil)))
  sNil)
noncomputable def m__law_rest : FA := fnR 3 4 false b__law_rest
theorem c__law_rest  (DD : Dfn K mg "_law_rest" s__law_rest ["graph", "places_left", "place"]) (n : Nm mg) (g : Gm mg) (h__law_near : Fn P w K mg base 1 "_law_near" m__law_near) : Fn P w K mg base 2 "_law_rest" m__law_rest :=
  nfun (k := 1) DD sc__law_rest fun f cdv A outer s H E hr => by
  have hu := hr.units
  have nd := sc__law_rest.nd
  exact (ns_seq (ns_ret (n_callT b_tuple (n_cons (n_lc (ni_seq (n_var 1)) (fun z => (ng_name 3 nd)) (fun z => (nts_one (nt_bo (nw_and (nt_cmp (c_ne hu) (n_var 3) (n_var 2)) (nw_and1 (nt_in (.inr ⟨rfl, rfl⟩) hu (n_var 3) (n_call h__law_near (n_cons (n_var 0) (n_cons (n_var 2) n_nil)) hr))))))) (fun z => (n_var 3)) nd (blkOk_by (own := [("other", 3)]) (by kernel_rfl))) n_nil) n.n_tuple))
  ns_nil)
abbrev s__law_value : Stmt := topS 23
theorem sc__law_value : FnScope ["graph", "places_left", "met", "place"] ["graph", "places_left", "met"] (defScope s__law_value) := ⟨rfl, rfl, rfl, by decide +kernel, rfl, by decide +kernel, by decide +kernel⟩
noncomputable def b__law_value (rec : FA) : MS := (sSeq (sIf (tCmp (cIn true) (eVar 1) (eVar 2)) (sSeq (sPu (eVar 2) (eVar 1) (eCall m__law_missing (aCons (eLc false [3] (iSeq (eVar 1)) (gName 3) tTrue (eCall rec (aCons (eVar 0) (aCons (eCall m__law_rest (aCons (eVar 0) (aCons (eVar 1) (aCons (eVar 3) aNil)))) (aCons (eVar 2) aNil))))) aNil)))
  sNil) sNil)
  (sSeq (sRet (eIt (eVar 2) (eVar 1)))
  sNil))
noncomputable def m__law_value : Nat → FA
  | 0 => fun _ _ => none
  | n + 1 => fnR 3 4 false (b__law_value (m__law_value n))
theorem cb__law_value  (DD : Dfn K mg "_law_value" s__law_value ["graph", "places_left", "met"]) (n : Nm mg) (g : Gm mg) (h__law_missing : Fn P w K mg base 1 "_law_missing" m__law_missing) (h__law_rest : Fn P w K mg base 2 "_law_rest" m__law_rest) {k : Nat} {rec : FA} (h__law_value : Fn P w K mg base (3 + k) "_law_value" rec) : Fn P w K mg base (3 + (k + 1)) "_law_value" (fnR 3 4 false (b__law_value rec)) :=
  nfun (k := 3 + k) DD sc__law_value fun f cdv A outer s H E hr => by
  have hu := hr.units
  have nd := sc__law_value.nd
  exact (ns_seq (ns_if (nt_in (.inr ⟨rfl, rfl⟩) hu (n_var 1) (n_var 2)) (ns_seq (ns_pu hu (n_call h__law_missing (n_cons (n_lc (ni_seq (n_var 1)) (fun z => (ng_name 3 nd)) (fun z => nts_nil) (fun z => (n_call h__law_value (n_cons (n_var 0) (n_cons (n_call h__law_rest (n_cons (n_var 0) (n_cons (n_var 1) (n_cons (n_var 3) n_nil))) hr) (n_cons (n_var 2) n_nil))) hr)) nd (blkOk_by (own := [("place", 3)]) (by kernel_rfl))) n_nil) hr) (n_var 2) (n_var 1))
  ns_nil) ns_nil)
  (ns_seq (ns_ret (n_it hu (n_var 2) (n_var 1)))
  ns_nil))
theorem c__law_value  (DD : Dfn K mg "_law_value" s__law_value ["graph", "places_left", "met"]) (n : Nm mg) (g : Gm mg) (h__law_missing : Fn P w K mg base 1 "_law_missing" m__law_missing) (h__law_rest : Fn P w K mg base 2 "_law_rest" m__law_rest) : ∀ k : Nat, Fn P w K mg base (3 + k) "_law_value" (m__law_value k)
  | 0 => (nfun_none (k := 0) DD sc__law_value).mono (by omega)
  | k + 1 => cb__law_value DD n g h__law_missing h__law_rest (c__law_value DD n g h__law_missing h__law_rest k)
abbrev s__law_edge_value : Stmt := topS 24
theorem sc__law_edge_value : FnScope ["graph", "places_left", "met", "worths", "i", "j", "other"] ["graph", "places_left", "met"] (defScope s__law_edge_value) := ⟨rfl, rfl, rfl, by decide +kernel, rfl, by decide +kernel, by decide +kernel⟩
noncomputable def b__law_edge_value (rec : FA) : MS := (sSeq (sIf (tCmp (cIn true) (eVar 1) (eVar 2)) (sSeq (sSet 3 (eLst true aNil))
  (sSeq (sFor (iSeq (eIt (eVar 0) (eC (.int 1)))) (gTup (gsLenOk 2 (gsCons (gName 4) (gsCons (gName 5) gsNil)))) (sSeq (sIf (tAnd (tCmp (cIn false) (eVar 4) (eVar 1)) (tCmp (cIn false) (eVar 5) (eVar 1))) (sSeq (sExpr (eMeth fApp (eVar 3) (aCons (eCall rec (aCons (eVar 0) (aCons (eCall bTuple (aCons (eLc false [6] (iSeq (eVar 1)) (gName 6) (tCmp (cIn true) (eVar 6) (eTup (aCons (eVar 4) (aCons (eVar 5) aNil)))) (eVar 6)) aNil)) (aCons (eVar 2) aNil)))) aNil)))
  sNil) sNil)
  sNil) [4, 5])
  (sSeq (sPu (eVar 2) (eVar 1) (eCall m__law_missing (aCons (eVar 3) aNil)))
  sNil))) sNil)
  (sSeq (sRet (eIt (eVar 2) (eVar 1)))
  sNil))
noncomputable def m__law_edge_value : Nat → FA
  | 0 => fun _ _ => none
  | n + 1 => fnR 3 7 false (b__law_edge_value (m__law_edge_value n))
theorem cb__law_edge_value  (DD : Dfn K mg "_law_edge_value" s__law_edge_value ["graph", "places_left", "met"]) (n : Nm mg) (g : Gm mg) (h__law_missing : Fn P w K mg base 1 "_law_missing" m__law_missing) {k : Nat} {rec : FA} (h__law_edge_value : Fn P w K mg base (2 + k) "_law_edge_value" rec) : Fn P w K mg base (2 + (k + 1)) "_law_edge_value" (fnR 3 7 false (b__law_edge_value rec)) :=
  nfun (k := 2 + k) DD sc__law_edge_value fun f cdv A outer s H E hr => by
  have hu := hr.units
  have nd := sc__law_edge_value.nd
  exact (ns_seq (ns_if (nt_in (.inr ⟨rfl, rfl⟩) hu (n_var 1) (n_var 2)) (ns_seq (ns_set 3 (n_lst n_nil) nd)
  (ns_seq (ns_for (vs := [4, 5]) (ni_seq (n_it hu (n_var 0) n_int)) (ng_tup (ngs_cons (ng_name 4 nd) (ngs_cons (ng_name 5 nd) ngs_nil))) (ns_seq (ns_if (nt_bo (nw_and (nt_in (.inl ⟨rfl, rfl⟩) hu (n_var 4) (n_var 1)) (nw_and1 (nt_in (.inl ⟨rfl, rfl⟩) hu (n_var 5) (n_var 1))))) (ns_seq (ns_expr (n_meth f_app (n_var 3) (n_cons (n_call h__law_edge_value (n_cons (n_var 0) (n_cons (n_callT b_tuple (n_cons (n_lc (ni_seq (n_var 1)) (fun z => (ng_name 6 nd)) (fun z => (nts_one (nt_in (.inr ⟨rfl, rfl⟩) hu (n_var 6) (n_tup (n_cons (n_var 4) (n_cons (n_var 5) n_nil)))))) (fun z => (n_var 6)) nd (blkOk_by (own := [("other", 6)]) (by kernel_rfl))) n_nil) n.n_tuple) (n_cons (n_var 2) n_nil))) hr) n_nil) PySem.F.slot_list_append PySem.F.type_list_append))
  ns_nil) ns_nil)
  ns_nil) PassesOwn.never)
  (ns_seq (ns_pu hu (n_call h__law_missing (n_cons (n_var 3) n_nil) hr) (n_var 2) (n_var 1))
  ns_nil))) ns_nil)
  (ns_seq (ns_ret (n_it hu (n_var 2) (n_var 1)))
  ns_nil))
theorem c__law_edge_value  (DD : Dfn K mg "_law_edge_value" s__law_edge_value ["graph", "places_left", "met"]) (n : Nm mg) (g : Gm mg) (h__law_missing : Fn P w K mg base 1 "_law_missing" m__law_missing) : ∀ k : Nat, Fn P w K mg base (2 + k) "_law_edge_value" (m__law_edge_value k)
  | 0 => (nfun_none (k := 0) DD sc__law_edge_value).mono (by omega)
  | k + 1 => cb__law_edge_value DD n g h__law_missing (c__law_edge_value DD n g h__law_missing k)
abbrev s__law_lines : Stmt := topS 25
theorem sc__law_lines : FnScope ["most", "first", "second", "n", "k"] ["most"] (defScope s__law_lines) := ⟨rfl, rfl, rfl, by decide +kernel, rfl, by decide +kernel, by decide +kernel⟩
noncomputable def b__law_lines : MS := (sSeq (sPar [1, 2] (aCons (eLst true (aCons (eC (.int 0)) aNil)) (aCons (eLst true (aCons (eC (.int 0)) aNil)) aNil)))
  (sSeq (sFor (iRng2 (aCons (eC (.int 1)) (aCons (eBin (oAdd false) (eVar 0) (eC (.int 1))) aNil))) (gName 3) (sSeq (sExpr (eMeth fApp (eVar 1) (aCons (eCall m__law_missing (aCons (eLc false [4] (iRng1 (aCons (eVar 3) aNil)) (gName 4) tTrue (eBin oXor (eIt (eVar 1) (eCall bMax2 (aCons (eC (.int 0)) (aCons (eBin oSub (eVar 4) (eC (.int 1))) aNil)))) (eIt (eVar 1) (eCall bMax2 (aCons (eC (.int 0)) (aCons (eBin oSub (eBin oSub (eVar 3) (eVar 4)) (eC (.int 2))) aNil)))))) aNil)) aNil)))
  (sSeq (sExpr (eMeth fApp (eVar 2) (aCons (eCall m__law_missing (aCons (eLc false [4] (iRng1 (aCons (eBin oSub (eVar 3) (eC (.int 1))) aNil)) (gName 4) tTrue (eBin oXor (eIt (eVar 2) (eVar 4)) (eIt (eVar 2) (eBin oSub (eBin oSub (eVar 3) (eC (.int 2))) (eVar 4))))) aNil)) aNil)))
  sNil)) [3])
  (sSeq (sRet (eTp (aCons (eVar 1) (aCons (eVar 2) aNil))))
  sNil)))
noncomputable def m__law_lines : FA := fnR 1 5 true b__law_lines
theorem c__law_lines  (DD : Dfn K mg "_law_lines" s__law_lines ["most"]) (n : Nm mg) (g : Gm mg) (h__law_missing : Fn P w K mg base 1 "_law_missing" m__law_missing) : Fn P w K mg base 2 "_law_lines" m__law_lines :=
  nfun (k := 1) DD sc__law_lines fun f cdv A outer s H E hr => by
  have hu := hr.units
  have nd := sc__law_lines.nd
  exact (ns_seq (ns_parC2 1 2 (n_cons (n_lst (n_cons n_int n_nil)) (n_cons (n_lst (n_cons n_int n_nil)) n_nil)) nd)
  (ns_seq (ns_for (vs := [3]) (ni_rng2 (n_cons n_int (n_cons (n_bin o_add (n_var 0) n_int) n_nil)) n.n_range) (ng_name 3 nd) (ns_seq (ns_expr (n_meth f_app (n_var 1) (n_cons (n_call h__law_missing (n_cons (n_lc (ni_rng1 (n_cons (n_var 3) n_nil) n.n_range) (fun z => (ng_name 4 nd)) (fun z => nts_nil) (fun z => (n_bin o_xor (n_it hu (n_var 1) (n_callB (b_max2 rfl) (n_cons n_int (n_cons (n_bin o_sub (n_var 4) n_int) n_nil)) n.n_max)) (n_it hu (n_var 1) (n_callB (b_max2 rfl) (n_cons n_int (n_cons (n_bin o_sub (n_bin o_sub (n_var 3) (n_var 4)) n_int) n_nil)) n.n_max)))) nd (blkOk_by (own := [("k", 4)]) (by kernel_rfl))) n_nil) hr) n_nil) PySem.F.slot_list_append PySem.F.type_list_append))
  (ns_seq (ns_expr (n_meth f_app (n_var 2) (n_cons (n_call h__law_missing (n_cons (n_lc (ni_rng1 (n_cons (n_bin o_sub (n_var 3) n_int) n_nil) n.n_range) (fun z => (ng_name 4 nd)) (fun z => nts_nil) (fun z => (n_bin o_xor (n_it hu (n_var 2) (n_var 4)) (n_it hu (n_var 2) (n_bin o_sub (n_bin o_sub (n_var 3) n_int) (n_var 4))))) nd (blkOk_by (own := [("k", 4)]) (by kernel_rfl))) n_nil) hr) n_nil) PySem.F.slot_list_append PySem.F.type_list_append))
  ns_nil)) PassesOwn.never)
  (ns_seq (ns_ret (n_tp (n_cons (n_var 1) (n_cons (n_var 2) n_nil))))
  ns_nil)))
abbrev s__law_moved : Stmt := topS 26
theorem sc__law_moved : FnScope ["graph", "step", "i", "j"] ["graph", "step"] (defScope s__law_moved) := ⟨rfl, rfl, rfl, by decide +kernel, rfl, by decide +kernel, by decide +kernel⟩
noncomputable def b__law_moved : MS := (sSeq (sRet (eCall bTuple (aCons (eLc false [2, 3] (iSeq (eIt (eVar 0) (eC (.int 1)))) (gTup (gsLenOk 2 (gsCons (gName 2) (gsCons (gName 3) gsNil)))) tTrue (eTup (aCons (eBin (oAdd false) (eVar 2) (eVar 1)) (aCons (eBin (oAdd false) (eVar 3) (eVar 1)) aNil)))) aNil)))
  sNil)
noncomputable def m__law_moved : FA := fnR 2 4 false b__law_moved
theorem c__law_moved  (DD : Dfn K mg "_law_moved" s__law_moved ["graph", "step"]) (n : Nm mg) (g : Gm mg)  : Fn P w K mg base 1 "_law_moved" m__law_moved :=
  nfun (k := 0) DD sc__law_moved fun f cdv A outer s H E hr => by
  have hu := hr.units
  have nd := sc__law_moved.nd
  exact (ns_seq (ns_ret (n_callT b_tuple (n_cons (n_lc (ni_seq (n_it hu (n_var 0) n_int)) (fun z => (ng_tup (ngs_cons (ng_name 2 nd) (ngs_cons (ng_name 3 nd) ngs_nil)))) (fun z => nts_nil) (fun z => (n_tup (n_cons (n_bin o_add (n_var 2) (n_var 1)) (n_cons (n_bin o_add (n_var 3) (n_var 1)) n_nil)))) nd (blkOk_by (own := [("i", 2), ("j", 3)]) (by kernel_rfl))) n_nil) n.n_tuple))
  ns_nil)
abbrev s_law : Stmt := topS 27
theorem sc_law : FnScope ["script", "box", "turn", "graph", "whole", "met", "edge_met", "due", "place", "wins", "k", "rest", "one", "other", "side", "n", "bridged", "j", "i", "halves", "edge", "line", "first", "second"] ["script"] (defScope s_law) := ⟨rfl, rfl, rfl, by decide +kernel, rfl, by decide +kernel, by decide +kernel⟩
noncomputable def b_law (C_Kayles : Addr) : MS := (sSeq (sSet 1 (eCall m__law_box (aCons (eVar 0) aNil)))
  (sSeq (sFor (iRng1 (aCons (eC (.int 3)) aNil)) (gName 2) (sSeq (sSet 3 (eCall m__law_graph (aCons (eVar 1) (aCons (eC (.int 7)) (aCons (eBin (oAdd false) (eC (.int 1)) (eCall m__law_draw (aCons (eVar 1) (aCons (eC (.int 4)) aNil)))) aNil)))))
  (sSeq (sPar [4, 5, 6] (aCons (eTupR1 (eIt (eVar 3) (eC (.int 0)))) (aCons eDic (aCons eDic aNil))))
  (sSeq (sIf (tNot (tVal (eCall (m__law_same 6) (aCons (eTup (aCons (eCall (m_kayles_value C_Kayles) (aCons (eVar 3) aNil)) (aCons (eCall (m_edge_kayles_value C_Kayles) (aCons (eVar 3) aNil)) aNil))) (aCons (eTup (aCons (eCall (m__law_value 14) (aCons (eVar 3) (aCons (eVar 4) (aCons (eVar 5) aNil)))) (aCons (eCall (m__law_edge_value 14) (aCons (eVar 3) (aCons (eVar 4) (aCons (eVar 6) aNil)))) aNil))) aNil))))) (sSeq (sRet (eC (.bool false)))
  sNil) sNil)
  (sSeq (sSet 7 (eCall bTuple (aCons (eLc false [8] (iSeq (eVar 4)) (gName 8) (tCmp cEq (eCall (m__law_value 14) (aCons (eVar 3) (aCons (eCall m__law_rest (aCons (eVar 3) (aCons (eVar 4) (aCons (eVar 8) aNil)))) (aCons (eVar 5) aNil)))) (eC (.int 0))) (eVar 8)) aNil)))
  (sSeq (sIf (tNot (tVal (eCall (m__law_same 6) (aCons (eCall (m_kayles_moves C_Kayles) (aCons (eVar 3) aNil)) (aCons (eVar 7) aNil))))) (sSeq (sRet (eC (.bool false)))
  sNil) sNil)
  (sSeq (sSet 9 (eLst true aNil))
  (sSeq (sFor (iRng1 (aCons (eCall bLen (aCons (eIt (eVar 3) (eC (.int 1))) aNil)) aNil)) (gName 10) (sSeq (sSet 11 (eCall bTuple (aCons (eLc false [8] (iSeq (eVar 4)) (gName 8) (tCmp (cIn true) (eVar 8) (eIt (eIt (eVar 3) (eC (.int 1))) (eVar 10))) (eVar 8)) aNil)))
  (sSeq (sIf (tCmp cEq (eCall (m__law_edge_value 14) (aCons (eVar 3) (aCons (eVar 11) (aCons (eVar 6) aNil)))) (eC (.int 0))) (sSeq (sExpr (eMeth fApp (eVar 9) (aCons (eVar 10) aNil)))
  sNil) sNil)
  sNil)) [11])
  (sSeq (sIf (tNot (tVal (eCall (m__law_same 6) (aCons (eCall (m_edge_kayles_moves C_Kayles) (aCons (eVar 3) aNil)) (aCons (eCall bTuple (aCons (eVar 9) aNil)) aNil))))) (sSeq (sRet (eC (.bool false)))
  sNil) sNil)
  (sSeq (sPar [12, 13] (aCons (eCall m__law_graph (aCons (eVar 1) (aCons (eC (.int 5)) (aCons (eC (.int 3)) aNil)))) (aCons (eCall m__law_graph (aCons (eVar 1) (aCons (eC (.int 5)) (aCons (eC (.int 3)) aNil)))) aNil)))
  (sSeq (sSet 14 (eTup (aCons (eBin (oAdd false) (eIt (eVar 12) (eC (.int 0))) (eIt (eVar 13) (eC (.int 0)))) (aCons (eCall bTuple (aCons (eCall (bSortU false) (aCons (eBin (oAdd false) (eIt (eVar 12) (eC (.int 1))) (eCall m__law_moved (aCons (eVar 13) (aCons (eIt (eVar 12) (eC (.int 0))) aNil)))) aNil)) aNil)) aNil))))
  (sSeq (sIf (tOr (tNot (tVal (eCall (m__law_same 6) (aCons (eCall (m_kayles_value C_Kayles) (aCons (eVar 14) aNil)) (aCons (eBin oXor (eCall (m_kayles_value C_Kayles) (aCons (eVar 12) aNil)) (eCall (m_kayles_value C_Kayles) (aCons (eVar 13) aNil))) aNil))))) (tNot (tVal (eCall (m__law_same 6) (aCons (eCall (m_edge_kayles_value C_Kayles) (aCons (eVar 14) aNil)) (aCons (eBin oXor (eCall (m_edge_kayles_value C_Kayles) (aCons (eVar 12) aNil)) (eCall (m_edge_kayles_value C_Kayles) (aCons (eVar 13) aNil))) aNil)))))) (sSeq (sRet (eC (.bool false)))
  sNil) sNil)
  (sSeq (sSet 15 (eIt (eVar 12) (eC (.int 0))))
  (sSeq (sSet 16 (eCall m__law_flat (aCons (eLc false [18] (iRng1 (aCons (eVar 15) aNil)) (gName 18) tTrue (eLc false [17] (iRng1 (aCons (eVar 15) aNil)) (gName 17) (tAnd (tCmp cNe (eVar 18) (eVar 17)) (tCmp cEq (eBin oMul (eBin oDiv (eBin (oAdd false) (eBin (oAdd false) (eCall bMin2 (aCons (eVar 18) (aCons (eVar 17) aNil))) (eBin oMul (eC (.int 2)) (eCall bMax2 (aCons (eVar 18) (aCons (eVar 17) aNil))))) (eVar 2)) (eC (.int 3))) (eC (.int 3))) (eBin (oAdd false) (eBin (oAdd false) (eCall bMin2 (aCons (eVar 18) (aCons (eVar 17) aNil))) (eBin oMul (eC (.int 2)) (eCall bMax2 (aCons (eVar 18) (aCons (eVar 17) aNil))))) (eVar 2)))) (eTup (aCons (eVar 18) (aCons (eBin (oAdd false) (eVar 15) (eVar 17)) aNil))))) aNil)))
  (sSeq (sSet 19 (eTup (aCons (eBin oMul (eC (.int 2)) (eVar 15)) (aCons (eCall bTuple (aCons (eCall (bSortDD false) (aCons (eCall bDictA (aCons (eLc false [20] (iSeq (eBin (oAdd false) (eBin (oAdd false) (eCall (bList false) (aCons (eIt (eVar 12) (eC (.int 1))) aNil)) (eCall (bList false) (aCons (eCall m__law_moved (aCons (eVar 12) (aCons (eVar 15) aNil))) aNil))) (eVar 16))) (gName 20) tTrue (eTup (aCons (eVar 20) (aCons (eC (.int 1)) aNil)))) aNil)) aNil)) aNil)) aNil))))
  (sSeq (sIf (tOr (tNot (tVal (eCall (m__law_same 6) (aCons (eCall (m_kayles_value C_Kayles) (aCons (eVar 19) aNil)) (aCons (eC (.int 0)) aNil))))) (tCmp cNe (eCall (m_kayles_moves C_Kayles) (aCons (eVar 19) aNil)) (eTup aNil))) (sSeq (sRet (eC (.bool false)))
  sNil) sNil)
  sNil))))))))))))))) [2, 3, 4, 5, 6, 7, 9, 11, 12, 13, 14, 15, 16, 19])
  (sSeq (sSet 15 (eBin (oAdd false) (eC (.int 1)) (eCall m__law_draw (aCons (eVar 1) (aCons (eC (.int 12)) aNil)))))
  (sSeq (sSet 21 (eTup (aCons (eVar 15) (aCons (eCall bTuple (aCons (eLc false [10] (iRng1 (aCons (eBin oSub (eVar 15) (eC (.int 1))) aNil)) (gName 10) tTrue (eTup (aCons (eVar 10) (aCons (eBin (oAdd false) (eVar 10) (eC (.int 1))) aNil)))) aNil)) aNil))))
  (sSeq (sUnp2 22 23 (eCall m__law_lines (aCons (eC (.int 12)) aNil)))
  (sSeq (sIf (tNot (tVal (eCall (m__law_same 6) (aCons (eTup (aCons (eCall (m_kayles_value C_Kayles) (aCons (eVar 21) aNil)) (aCons (eCall (m_edge_kayles_value C_Kayles) (aCons (eVar 21) aNil)) aNil))) (aCons (eTup (aCons (eIt (eVar 22) (eVar 15)) (aCons (eIt (eVar 23) (eVar 15)) aNil))) aNil))))) (sSeq (sRet (eC (.bool false)))
  sNil) sNil)
  (sSeq (sRet (eAnd (eCall (m__law_same 6) (aCons (eCall m_code_values (aCons (eTup (aCons (eC (.int 1)) (aCons (eC (.int 3)) (aCons (eC (.int 7)) aNil)))) (aCons (eC (.int 12)) aNil))) (aCons (eCall bTuple (aCons (eVar 22) aNil)) aNil))) (eCall (m__law_same 6) (aCons (eCall m_code_values (aCons (eTup (aCons (eC (.int 0)) (aCons (eC (.int 7)) aNil))) (aCons (eC (.int 12)) aNil))) (aCons (eCall bTuple (aCons (eVar 23) aNil)) aNil)))))
  sNil)))))))
noncomputable def m_law (C_Kayles : Addr) : FA := fnR 1 24 false (b_law C_Kayles)
theorem c_law {f : Addr} {fd : FuncData} {C_Kayles : Addr} (FF : Fun K "law" "law" s_law f fd) (n : Nm mg) (g : Gm mg) (t_Kayles : Cl_Kayles K mg C_Kayles) (h__law_box : Fn P w K mg base 1 "_law_box" m__law_box) (h__law_draw : Fn P w K mg base 2 "_law_draw" m__law_draw) (h__law_edge_value : Fn P w K mg base 16 "_law_edge_value" (m__law_edge_value 14)) (h__law_flat : Fn P w K mg base 1 "_law_flat" m__law_flat) (h__law_graph : Fn P w K mg base 3 "_law_graph" m__law_graph) (h__law_lines : Fn P w K mg base 2 "_law_lines" m__law_lines) (h__law_moved : Fn P w K mg base 1 "_law_moved" m__law_moved) (h__law_rest : Fn P w K mg base 2 "_law_rest" m__law_rest) (h__law_same : Fn P w K mg base 7 "_law_same" (m__law_same 6)) (h__law_value : Fn P w K mg base 17 "_law_value" (m__law_value 14)) (h_code_values : Fn P w K mg base 2 "code_values" m_code_values) (h_edge_kayles_moves : Fn P w K mg base 17 "edge_kayles_moves" (m_edge_kayles_moves C_Kayles)) (h_edge_kayles_value : Fn P w K mg base 17 "edge_kayles_value" (m_edge_kayles_value C_Kayles)) (h_kayles_moves : Fn P w K mg base 17 "kayles_moves" (m_kayles_moves C_Kayles)) (h_kayles_value : Fn P w K mg base 17 "kayles_value" (m_kayles_value C_Kayles)) (run : ∀ ns : List Int, ns.length ≤ 63 → ∃ s', (m_law C_Kayles) [] [.d (.list (ns.map .int))] = some (.d (.bool true), s')) : FnOk P w K mg base CX0 18 f fd ["script"] (spE K) :=
  law_fn (k := 17) (M := (b_law C_Kayles)) FF sc_law (fun f cdv A outer s H E hr => by
  have hu := hr.units
  have nd := sc_law.nd
  exact (ns_seq (ns_set 1 (n_call h__law_box (n_cons (n_var 0) n_nil) hr) nd)
  (ns_seq (ns_for (vs := [2]) (ni_rng1 (n_cons n_int n_nil) n.n_range) (ng_name 2 nd) (ns_seq (ns_set 3 (n_call h__law_graph (n_cons (n_var 1) (n_cons n_int (n_cons (n_bin o_add n_int (n_call h__law_draw (n_cons (n_var 1) (n_cons n_int n_nil)) hr)) n_nil))) hr) nd)
  (ns_seq (ns_parC3 4 5 6 (n_cons (n_tupR1 rfl (n_it hu (n_var 3) n_int) n.n_tuple n.n_range) (n_cons n_dic (n_cons n_dic n_nil))) nd)
  (ns_seq (ns_if (nt_not (nt_val (n_call h__law_same (n_cons (n_tup (n_cons (n_call h_kayles_value (n_cons (n_var 3) n_nil) hr) (n_cons (n_call h_edge_kayles_value (n_cons (n_var 3) n_nil) hr) n_nil))) (n_cons (n_tup (n_cons (n_call h__law_value (n_cons (n_var 3) (n_cons (n_var 4) (n_cons (n_var 5) n_nil))) hr) (n_cons (n_call h__law_edge_value (n_cons (n_var 3) (n_cons (n_var 4) (n_cons (n_var 6) n_nil))) hr) n_nil))) n_nil)) hr))) (ns_seq (ns_ret n_bl)
  ns_nil) ns_nil)
  (ns_seq (ns_set 7 (n_callT b_tuple (n_cons (n_lc (ni_seq (n_var 4)) (fun z => (ng_name 8 nd)) (fun z => (nts_one (nt_cmp (c_eq hu) (n_call h__law_value (n_cons (n_var 3) (n_cons (n_call h__law_rest (n_cons (n_var 3) (n_cons (n_var 4) (n_cons (n_var 8) n_nil))) hr) (n_cons (n_var 5) n_nil))) hr) n_int))) (fun z => (n_var 8)) nd (blkOk_by (own := [("place", 8)]) (by kernel_rfl))) n_nil) n.n_tuple) nd)
  (ns_seq (ns_if (nt_not (nt_val (n_call h__law_same (n_cons (n_call h_kayles_moves (n_cons (n_var 3) n_nil) hr) (n_cons (n_var 7) n_nil)) hr))) (ns_seq (ns_ret n_bl)
  ns_nil) ns_nil)
  (ns_seq (ns_set 9 (n_lst n_nil) nd)
  (ns_seq (ns_for (vs := [10]) (ni_rng1 (n_cons (n_callB b_len (n_cons (n_it hu (n_var 3) n_int) n_nil) n.n_len) n_nil) n.n_range) (ng_name 10 nd) (ns_seq (ns_set 11 (n_callT b_tuple (n_cons (n_lc (ni_seq (n_var 4)) (fun z => (ng_name 8 nd)) (fun z => (nts_one (nt_in (.inr ⟨rfl, rfl⟩) hu (n_var 8) (n_it hu (n_it hu (n_var 3) n_int) (n_var 10))))) (fun z => (n_var 8)) nd (blkOk_by (own := [("place", 8)]) (by kernel_rfl))) n_nil) n.n_tuple) nd)
  (ns_seq (ns_if (nt_cmp (c_eq hu) (n_call h__law_edge_value (n_cons (n_var 3) (n_cons (n_var 11) (n_cons (n_var 6) n_nil))) hr) n_int) (ns_seq (ns_expr (n_meth f_app (n_var 9) (n_cons (n_var 10) n_nil) PySem.F.slot_list_append PySem.F.type_list_append))
  ns_nil) ns_nil)
  ns_nil)) PassesOwn.never)
  (ns_seq (ns_if (nt_not (nt_val (n_call h__law_same (n_cons (n_call h_edge_kayles_moves (n_cons (n_var 3) n_nil) hr) (n_cons (n_callT b_tuple (n_cons (n_var 9) n_nil) n.n_tuple) n_nil)) hr))) (ns_seq (ns_ret n_bl)
  ns_nil) ns_nil)
  (ns_seq (ns_par2 12 13 (n_cons (n_call h__law_graph (n_cons (n_var 1) (n_cons n_int (n_cons n_int n_nil))) hr) (n_cons (n_call h__law_graph (n_cons (n_var 1) (n_cons n_int (n_cons n_int n_nil))) hr) n_nil)) nd)
  (ns_seq (ns_set 14 (n_tup (n_cons (n_bin o_add (n_it hu (n_var 12) n_int) (n_it hu (n_var 13) n_int)) (n_cons (n_callT b_tuple (n_cons (n_callB (b_sortU hu) (n_cons (n_bin o_add (n_it hu (n_var 12) n_int) (n_call h__law_moved (n_cons (n_var 13) (n_cons (n_it hu (n_var 12) n_int) n_nil)) hr)) n_nil) n.n_sorted) n_nil) n.n_tuple) n_nil))) nd)
  (ns_seq (ns_if (nt_bo (nw_or (nt_not (nt_val (n_call h__law_same (n_cons (n_call h_kayles_value (n_cons (n_var 14) n_nil) hr) (n_cons (n_bin o_xor (n_call h_kayles_value (n_cons (n_var 12) n_nil) hr) (n_call h_kayles_value (n_cons (n_var 13) n_nil) hr)) n_nil)) hr))) (nw_or1 (nt_not (nt_val (n_call h__law_same (n_cons (n_call h_edge_kayles_value (n_cons (n_var 14) n_nil) hr) (n_cons (n_bin o_xor (n_call h_edge_kayles_value (n_cons (n_var 12) n_nil) hr) (n_call h_edge_kayles_value (n_cons (n_var 13) n_nil) hr)) n_nil)) hr)))))) (ns_seq (ns_ret n_bl)
  ns_nil) ns_nil)
  (ns_seq (ns_set 15 (n_it hu (n_var 12) n_int) nd)
  (ns_seq (ns_set 16 (n_call h__law_flat (n_cons (n_lc (ni_rng1 (n_cons (n_var 15) n_nil) n.n_range) (fun z => (ng_name 18 nd)) (fun z => nts_nil) (fun z => (n_lc (ni_rng1 (n_cons (n_var 15) n_nil) n.n_range) (fun z => (ng_name 17 nd)) (fun z => (nts_one (nt_bo (nw_and (nt_cmp (c_ne hu) (n_var 18) (n_var 17)) (nw_and1 (nt_cmp (c_eq hu) (n_bin o_mul (n_bin o_div (n_bin o_add (n_bin o_add (n_callB (b_min2 rfl) (n_cons (n_var 18) (n_cons (n_var 17) n_nil)) n.n_min) (n_bin o_mul n_int (n_callB (b_max2 rfl) (n_cons (n_var 18) (n_cons (n_var 17) n_nil)) n.n_max))) (n_var 2)) n_int) n_int) (n_bin o_add (n_bin o_add (n_callB (b_min2 rfl) (n_cons (n_var 18) (n_cons (n_var 17) n_nil)) n.n_min) (n_bin o_mul n_int (n_callB (b_max2 rfl) (n_cons (n_var 18) (n_cons (n_var 17) n_nil)) n.n_max))) (n_var 2)))))))) (fun z => (n_tup (n_cons (n_var 18) (n_cons (n_bin o_add (n_var 15) (n_var 17)) n_nil)))) nd (blkOk_by (own := [("j", 17)]) (by kernel_rfl)))) nd (blkOk_by (own := [("i", 18)]) (by kernel_rfl))) n_nil) hr) nd)
  (ns_seq (ns_set 19 (n_tup (n_cons (n_bin o_mul n_int (n_var 15)) (n_cons (n_callT b_tuple (n_cons (n_callB (b_sortDD rfl hu) (n_cons (n_callT (b_dictA rfl hu) (n_cons (n_lc (ni_seq (n_bin o_add (n_bin o_add (n_callT b_list (n_cons (n_it hu (n_var 12) n_int) n_nil) n.n_list) (n_callT b_list (n_cons (n_call h__law_moved (n_cons (n_var 12) (n_cons (n_var 15) n_nil)) hr) n_nil) n.n_list)) (n_var 16))) (fun z => (ng_name 20 nd)) (fun z => nts_nil) (fun z => (n_tup (n_cons (n_var 20) (n_cons n_int n_nil)))) nd (blkOk_by (own := [("edge", 20)]) (by kernel_rfl))) n_nil) n.n_dict) n_nil) n.n_sorted) n_nil) n.n_tuple) n_nil))) nd)
  (ns_seq (ns_if (nt_bo (nw_or (nt_not (nt_val (n_call h__law_same (n_cons (n_call h_kayles_value (n_cons (n_var 19) n_nil) hr) (n_cons n_int n_nil)) hr))) (nw_or1 (nt_cmp (c_ne hu) (n_call h_kayles_moves (n_cons (n_var 19) n_nil) hr) (n_tup n_nil))))) (ns_seq (ns_ret n_bl)
  ns_nil) ns_nil)
  ns_nil))))))))))))))) PassesOwn.never)
  (ns_seq (ns_set 15 (n_bin o_add n_int (n_call h__law_draw (n_cons (n_var 1) (n_cons n_int n_nil)) hr)) nd)
  (ns_seq (ns_set 21 (n_tup (n_cons (n_var 15) (n_cons (n_callT b_tuple (n_cons (n_lc (ni_rng1 (n_cons (n_bin o_sub (n_var 15) n_int) n_nil) n.n_range) (fun z => (ng_name 10 nd)) (fun z => nts_nil) (fun z => (n_tup (n_cons (n_var 10) (n_cons (n_bin o_add (n_var 10) n_int) n_nil)))) nd (blkOk_by (own := [("k", 10)]) (by kernel_rfl))) n_nil) n.n_tuple) n_nil))) nd)
  (ns_seq (ns_unp2 22 23 (n_call h__law_lines (n_cons n_int n_nil) hr) nd)
  (ns_seq (ns_if (nt_not (nt_val (n_call h__law_same (n_cons (n_tup (n_cons (n_call h_kayles_value (n_cons (n_var 21) n_nil) hr) (n_cons (n_call h_edge_kayles_value (n_cons (n_var 21) n_nil) hr) n_nil))) (n_cons (n_tup (n_cons (n_it hu (n_var 22) (n_var 15)) (n_cons (n_it hu (n_var 23) (n_var 15)) n_nil))) n_nil)) hr))) (ns_seq (ns_ret n_bl)
  ns_nil) ns_nil)
  (ns_seq (ns_ret (n_and (n_call h__law_same (n_cons (n_call h_code_values (n_cons (n_tup (n_cons n_int (n_cons n_int (n_cons n_int n_nil)))) (n_cons n_int n_nil)) hr) (n_cons (n_callT b_tuple (n_cons (n_var 22) n_nil) n.n_tuple) n_nil)) hr) (n_one (n_call h__law_same (n_cons (n_call h_code_values (n_cons (n_tup (n_cons n_int (n_cons n_int n_nil))) (n_cons n_int n_nil)) hr) (n_cons (n_callT b_tuple (n_cons (n_var 23) n_nil) n.n_tuple) n_nil)) hr))))
  ns_nil)))))))) run
end T78

namespace N
open PySem L2 PyProof.Rows

noncomputable def sd (M : List (List Nat)) : List PyData := Z.srt (Z.dd (M.map tup))
theorem srt_sd {L M : List (List Nat)} (nd : L.Nodup) (h : ∀ r, r ∈ L ↔ r ∈ M) : Z.srt (L.map tup) = sd M := by
  unfold sd
  refine Z.srt_eq (srtOk_tup L).al ((List.perm_ext_iff_of_nodup ?_ (dd_nodup _)).mpr fun x => ?_)
  · exact List.Pairwise.map tup (fun a b h e => h (tup_inj e)) nd
  · rw [Z.dd_mem, List.mem_map, List.mem_map]
    constructor
    · rintro ⟨r, h1, rfl⟩; exact ⟨r, (h r).mp h1, rfl⟩
    · rintro ⟨r, h1, rfl⟩; exact ⟨r, (h r).mpr h1, rfl⟩
theorem tup_map_inj {a b : List (List Nat)} (h : a.map tup = b.map tup) : a = b := by
  induction a generalizing b with
  | nil => cases b with
    | nil => rfl
    | cons y b => cases h
  | cons x a ih => cases b with
    | nil => cases h
    | cons y b =>
      rw [List.map_cons, List.map_cons] at h
      injection h with h1 h2
      rw [tup_inj h1, ih h2]
theorem sd_eq {L M : List (List Nat)} (nd : L.Nodup) (h : ∀ r, r ∈ L ↔ r ∈ M) : sd L = sd M := (srt_sd nd fun _ => Iff.rfl).symm.trans (srt_sd nd h)
/-- a row of rows in order, each once -/
structure Canon (H : List (List Nat)) : Prop where
  nd : H.Nodup
  so : sd H = H.map tup
theorem Canon.eq {A B : List (List Nat)} (a : Canon A) (b : Canon B) (h : ∀ r, r ∈ A ↔ r ∈ B) : A = B := tup_map_inj (by rw [← a.so, ← b.so, sd_eq a.nd h])
section
variable {α : Type} [DecidableEq α] (kf : α → PyData) (vf : α → D)
def DG (M : List α) : List (PyData × D) := M.map fun a => (kf a, vf a)
variable {kf vf}
theorem has_DG (inj : ∀ a b, kf a = kf b → a = b) (M : List α) (a : α) : dHas (DG kf vf M) (kf a) = decide (a ∈ M) := by
  rw [Bool.eq_iff_iff, decide_eq_true_eq]
  unfold dHas DG
  simp only [List.any_map, List.any_eq_true, Function.comp, decide_eq_true_eq]
  exact ⟨fun ⟨x, h1, h2⟩ => inj _ _ h2 ▸ h1, fun h1 => ⟨a, h1, rfl⟩⟩
theorem get_DG (inj : ∀ a b, kf a = kf b → a = b) {M : List α} {a : α} (hm : a ∈ M) : dGet (DG kf vf M) (kf a) = some (vf a) := by
  unfold dGet DG
  induction M with
  | nil => cases hm
  | cons x M ih =>
    rw [List.map_cons, List.find?_cons]
    by_cases e : x = a
    · subst e
      simp
    · have : decide (kf x = kf a) = false := decide_eq_false fun h => e (inj _ _ h)
      simp only [this]
      exact ih (by
        rcases List.mem_cons.mp hm with r | r
        · exact (e r.symm).elim
        · exact r)
theorem put_DG (inj : ∀ a b, kf a = kf b → a = b) (M : List α) (a : α) : dPut (DG kf vf M) (kf a) (vf a) = DG kf vf (if a ∈ M then M else M ++ [a]) := by
  unfold dPut
  rw [has_DG inj]
  by_cases hm : a ∈ M
  · rw [if_pos hm, decide_eq_true hm, if_pos rfl]
    unfold DG
    rw [List.map_map]
    refine List.map_congr_left fun x hx => ?_
    simp only [Function.comp]
    split
    · rename_i e
      rw [inj _ _ e]
    · rfl
  · rw [if_neg hm, decide_eq_false hm, if_neg (by simp)]
    unfold DG
    rw [List.map_append]
    rfl
end
theorem xr_any {gs : List Nat} {b : Nat} (h : (xr gs).testBit b = true) : ∃ g ∈ gs, g.testBit b = true := by
  rw [xr_bit, decide_eq_true_eq] at h
  cases hf : gs.filter fun n => n.testBit b with
  | nil => rw [hf] at h; simp at h
  | cons g l =>
    have : g ∈ gs.filter fun n => n.testBit b := by rw [hf]; exact List.mem_cons_self
    have := List.mem_filter.mp this
    exact ⟨g, this.1, this.2⟩
theorem log_bit {d : Nat} (h : d ≠ 0) : d.testBit d.log2 = true := by
  rw [Nat.testBit_log2 h]
theorem nim_less {gs : List Nat} {t : Nat} (h : t < xr gs) : ∃ g ∈ gs, g ^^^ (xr gs ^^^ t) < g := by
  have hd : xr gs ^^^ t ≠ 0 := fun e => by
    have := xor_swap.mp e
    omega
  have hb := log_bit hd
  rw [Nat.testBit_xor] at hb
  cases hT : (xr gs).testBit (xr gs ^^^ t).log2 with
  | true =>
    obtain ⟨g, h1, h2⟩ := xr_any hT
    exact ⟨g, h1, xr_bit_of hd h2⟩
  | false =>
    rw [hT, Bool.false_xor] at hb
    have := xr_bit_of hd hb
    rw [Nat.xor_comm (xr gs) t, ← Nat.xor_assoc, Nat.xor_self, Nat.zero_xor] at this
    omega
section
variable {α : Type} [DecidableEq α] (g : α → Nat)
variable {g}
/-- the rank of a set: a later place counts for more -/
def rk (L H : List α) : Nat := match L with
  | [] => 0
  | c :: L => (if c ∈ H then 1 else 0) + 2 * rk L H
theorem rk_lt_pow : ∀ (L H : List α), rk L H < 2 ^ L.length
  | [], H => by simp [rk]
  | c :: L, H => by
    have := rk_lt_pow L H
    rw [rk, List.length_cons, Nat.pow_succ]
    split <;> omega
theorem rk_inj {L A B : List α} (h : rk L A = rk L B) : ∀ c ∈ L, c ∈ A ↔ c ∈ B := by
  induction L with
  | nil => intro c hc; cases hc
  | cons c L ih =>
    rw [rk, rk] at h
    have h2 : rk L A = rk L B := by split at h <;> split at h <;> omega
    intro d hd
    rcases List.mem_cons.mp hd with rfl | hd
    · rw [h2] at h
      by_cases a : d ∈ A <;> by_cases b : d ∈ B <;> simp [a, b] at h ⊢
    · exact ih h2 d hd
end
def KS (ns : List Nat) (kvs : List (Key × D)) : Prop := (∀ k : Nat, kHas kvs (.inl (k : Int)) = decide (k ∈ ns)) ∧ kvs.length ≤ ns.length
theorem KS.nil : KS [] [] := ⟨fun k => by simp [kHas], by simp⟩
theorem KS.put {ns : List Nat} {kvs : List (Key × D)} (h : KS ns kvs) (v : Nat) (d : D) : KS (ns ++ [v]) (kPut kvs (.inl (v : Int)) d) := by
  refine ⟨fun k => ?_, ?_⟩
  · rw [Bool.eq_iff_iff, kHas_put, h.1, decide_eq_true_eq, decide_eq_true_eq, List.mem_append, List.mem_singleton]
    constructor
    · rintro (e | e)
      · right
        simp at e
        omega
      · exact .inl e
    · rintro (e | e)
      · exact .inr e
      · exact .inl (by rw [e])
  · have := @kPut_len kvs (.inl (v : Int)) d
    have := h.2
    rw [List.length_append]
    simp
    omega
theorem DG_below {α : Type} (kf : α → PyData) (f : α → PyData) (M : List α) (n : Nat) : (Cell.dic (DG kf (fun a => .d (f a)) M)).below n := fun k j h => by
  obtain ⟨x, _, e⟩ := List.mem_map.mp h
  simp at e
theorem R_srtU {L : List (List Nat)} {s : Sto} {Q : D → Sto → Prop} (q : Q (.d (.list (Z.srt (L.map tup)))) s) : R (bSortU false s [.d (.tuple (L.map tup))]) Q := by
  unfold bSortU
  have h : SrtOk (L.map tup) ∧ ∀ d ∈ L.map tup, Z.kOK d = true := ⟨srtOk_tup L, fun d hd => by
    obtain ⟨r, _, rfl⟩ := List.mem_map.mp hd
    have := key_nt r
    simp only [isKey, Bool.and_eq_true, decide_eq_true_eq] at this
    exact this.1.2⟩
  simp only [if_pos h, R_mkF, data_map, Rc_some]
  exact q
theorem R_srtDD {M : List (List Nat)} {vf : List Nat → D} {s : Sto} {j : Nat} (h : s[j]? = some (.dic (DG tup vf M))) {Q : D → Sto → Prop} (q : Q (.d (.list (Z.srt (M.map tup)))) s) : R (bSortDD false s [.r j]) Q := by
  have e : (DG tup vf M).map (·.1) = M.map tup := by
    unfold DG
    rw [List.map_map]
    rfl
  have : bSortD false s [.r j] = some (.d (.list (Z.srt (M.map tup))), s) := by
    unfold bSortD
    simp only [h]
    rw [if_pos (show SrtOk ((DG tup vf M).map (·.1)) from e ▸ srtOk_tup M), e]
    unfold mkL
    rw [if_neg Bool.false_ne_true, data_map]
  unfold bSortDD
  simp only [this, R_some]
  exact q
theorem dPutAll_tup (v : PyData) : ∀ (qs M : List (List Nat)), ∃ M', dPutAll (DG tup (fun _ => D.d v) M) (qs.map fun q => (tup q, v)) = DG tup (fun _ => D.d v) M' ∧ (M.Nodup → M'.Nodup) ∧ ∀ r, r ∈ M' ↔ r ∈ M ∨ r ∈ qs
  | [], M => ⟨M, rfl, id, fun r => by simp⟩
  | q :: qs, M => by
    obtain ⟨X, hp, hx1, hx2⟩ : ∃ X, dPut (DG tup (fun _ => D.d v) M) (tup q) (D.d v) = DG tup (fun _ => D.d v) X ∧ (M.Nodup → X.Nodup) ∧ ∀ r, r ∈ X ↔ r ∈ M ∨ r = q := by
      refine ⟨_, put_DG (kf := tup) (vf := fun _ => D.d v) (fun a b h => tup_inj h) M q, fun nd => ?_, fun r => ?_⟩
      · split
        · exact nd
        · rename_i hn
          rw [List.nodup_append]
          exact ⟨nd, by simp, fun a ha b hb => by simp at hb; subst hb; exact fun e => hn (e ▸ ha)⟩
      · split
        · rename_i hq
          exact ⟨.inl, fun h => h.elim id fun e => e ▸ hq⟩
        · simp
    obtain ⟨M', h1, h2, h3⟩ := dPutAll_tup v qs X
    refine ⟨M', ?_, fun nd => h2 (hx1 nd), fun r => ?_⟩
    · rw [← h1, ← hp]
      rfl
    · rw [h3, hx2, List.mem_cons, or_assoc]
/-- dict(list of pairs), its keys rows of numbers -/
theorem R_dictT {v : PyData} {qs : List (List Nat)} (hne : qs ≠ []) {s : Sto} {Q : D → Sto → Prop} (q : ∀ M : List (List Nat), M.Nodup → (∀ r, r ∈ M ↔ r ∈ qs) → Q (.r s.length) (s ++ [.dic (DG tup (fun _ => D.d v) M)])) : R (bDictA s [.d (.list (qs.map fun q => .tuple [tup q, v]))]) Q := by
  have h1 : bDictK s [.d (.list (qs.map fun q => .tuple [tup q, v]))] = none := by
    cases qs with
    | nil => exact absurd rfl hne
    | cons a qs =>
      unfold bDictK asL
      simp only [List.map_cons]
      unfold kprs
      simp only [show keyOf (tup a) = none from rfl]
  have h2 : prsOf ((qs.map fun q => PyData.tuple [tup q, v]).map D.d) = some (qs.map fun q => (tup q, v)) := by
    have := prs_map (qs.map fun q => (tup q, v))
    rw [List.map_map] at this ⊢
    exact this
  obtain ⟨M, e, nd, hm⟩ := dPutAll_tup v qs []
  unfold bDictA
  simp only [h1]
  unfold bDictL asL
  simp only [h2]
  have h3 : (qs.map fun q => (tup q, v)).all (fun p => isKey p.1) = true := by
    rw [List.all_map, List.all_eq_true]
    exact fun r _ => key_nt r
  rw [if_pos h3, R_some, show dPutAll [] (qs.map fun q => (tup q, v)) = DG tup (fun _ => D.d v) M from e]
  exact q M (nd List.nodup_nil) fun r => by rw [hm]; simp
end N

namespace Ky
def mexG (l : List Nat) : Nat → Nat → Nat
  | 0, k => k
  | f + 1, k => if k ∈ l then mexG l f (k + 1) else k
def mex (l : List Nat) : Nat := mexG l (l.length + 1) 0
theorem mexG_ok (l : List Nat) : ∀ f k, (∀ i < k, i ∈ l) → l.length < k + f → N.Mex l (mexG l f k)
  | 0, k, h, hl => by
    exfalso
    have := N.nodup_le (l := List.range k) (m := l) List.nodup_range fun x hx => h x (List.mem_range.mp hx)
    rw [List.length_range] at this
    omega
  | f + 1, k, h, hl => by
    unfold mexG
    split
    · rename_i hk
      refine mexG_ok l f (k + 1) (fun i hi => ?_) (by omega)
      rcases Nat.lt_or_ge i k with h1 | h1
      · exact h i h1
      · rwa [show i = k by omega]
    · rename_i hk
      exact ⟨h, hk⟩
theorem mex_ok (l : List Nat) : N.Mex l (mex l) := mexG_ok l (l.length + 1) 0 (fun i hi => absurd hi (by omega)) (by omega)
theorem Mex.congr {l m : List Nat} {k : Nat} (h : ∀ x, x ∈ l ↔ x ∈ m) (g : N.Mex l k) : N.Mex m k := ⟨fun i hi => (h i).mp (g.1 i hi), fun hm => g.2 ((h k).mpr hm)⟩
abbrev Adj := Nat → Nat → Bool
def optsV (adj : Adj) (S : List Nat) : List (List Nat) := S.map fun v => S.filter fun o => decide (o ≠ v) && !adj v o
def optsE (adj : Adj) (S : List Nat) : List (List Nat) := S.flatMap fun u => (S.filter fun v => decide (u < v) && adj u v).map fun v => S.filter fun o => decide (o ≠ u) && decide (o ≠ v)
def opts (b : Bool) (adj : Adj) (S : List Nat) : List (List Nat) := if b then optsE adj S else optsV adj S
theorem mem_optsV {adj : Adj} {S T : List Nat} : T ∈ opts false adj S ↔ ∃ v ∈ S, T = S.filter fun o => decide (o ≠ v) && !adj v o := by
  unfold opts optsV
  rw [if_neg Bool.false_ne_true, List.mem_map]
  exact ⟨fun ⟨v, h, e⟩ => ⟨v, h, e.symm⟩, fun ⟨v, h, e⟩ => ⟨v, h, e.symm⟩⟩
theorem mem_optsE {adj : Adj} {S T : List Nat} : T ∈ opts true adj S ↔ ∃ u ∈ S, ∃ v ∈ S, u < v ∧ adj u v = true ∧ T = S.filter fun o => decide (o ≠ u) && decide (o ≠ v) := by
  unfold opts optsE
  rw [if_pos rfl, List.mem_flatMap]
  constructor
  · rintro ⟨u, hu, h⟩
    obtain ⟨v, hv, rfl⟩ := List.mem_map.mp h
    obtain ⟨h1, h2⟩ := List.mem_filter.mp hv
    rw [Bool.and_eq_true] at h2
    exact ⟨u, hu, v, h1, of_decide_eq_true h2.1, h2.2, rfl⟩
  · rintro ⟨u, hu, v, hv, h1, h2, rfl⟩
    exact ⟨u, hu, List.mem_map.mpr ⟨v, List.mem_filter.mpr ⟨hv, by rw [decide_eq_true h1, h2]; rfl⟩, rfl⟩⟩
theorem filter_lt {p : Nat → Bool} {S : List Nat} {v : Nat} (hv : v ∈ S) (h : p v = false) : (S.filter p).length < S.length := by
  induction S with
  | nil => cases hv
  | cons x S ih =>
    rw [List.filter_cons]
    rcases List.mem_cons.mp hv with rfl | hv
    · rw [h, if_neg Bool.false_ne_true]
      exact Nat.lt_succ_of_le (List.length_filter_le _ _)
    · split
      · simp only [List.length_cons]
        exact Nat.succ_lt_succ (ih hv)
      · simp only [List.length_cons]
        exact Nat.lt_succ_of_lt (ih hv)
theorem opts_lt {b : Bool} {adj : Adj} {S T : List Nat} (h : T ∈ opts b adj S) : T.length < S.length := by
  cases b with
  | false =>
    obtain ⟨v, hv, rfl⟩ := mem_optsV.mp h
    exact filter_lt hv (by simp)
  | true =>
    obtain ⟨u, hu, v, hv, _, _, rfl⟩ := mem_optsE.mp h
    exact filter_lt hu (by simp)
def gF (b : Bool) (adj : Adj) : Nat → List Nat → Nat
  | 0, _ => 0
  | f + 1, S => mex ((opts b adj S).map (gF b adj f))
theorem gF_fuel (b : Bool) (adj : Adj) : ∀ f f' S, S.length < f → S.length < f' → gF b adj f S = gF b adj f' S
  | 0, _, _, h, _ => absurd h (by omega)
  | _ + 1, 0, _, _, h => absurd h (by omega)
  | f + 1, f' + 1, S, h, h' => by
    unfold gF
    congr 1
    refine List.map_congr_left fun T hT => ?_
    have := opts_lt hT
    exact gF_fuel b adj f f' T (by omega) (by omega)
def g (b : Bool) (adj : Adj) (S : List Nat) : Nat := gF b adj (S.length + 1) S
theorem g_eq (b : Bool) (adj : Adj) (S : List Nat) : g b adj S = mex ((opts b adj S).map (g b adj)) := by
  show mex _ = _
  congr 1
  refine List.map_congr_left fun T hT => ?_
  have := opts_lt hT
  exact gF_fuel b adj _ _ T (by omega) (by omega)
theorem g_mex (b : Bool) (adj : Adj) (S : List Nat) : N.Mex ((opts b adj S).map (g b adj)) (g b adj S) := by
  rw [g_eq]
  exact mex_ok _
/-- no edge leads from one part to the other -/
def Apart (adj : Adj) (S : List Nat) (p : Nat → Bool) : Prop := ∀ u ∈ S, ∀ v ∈ S, p u = true → p v = false → adj u v = false ∧ adj v u = false
theorem Apart.not {adj : Adj} {S : List Nat} {p : Nat → Bool} (h : Apart adj S p) : Apart adj S (fun x => !p x) := fun u hu v hv h1 h2 => by
  simp at h1 h2
  exact (h v hv u hu h2 h1).symm
theorem Apart.sub {adj : Adj} {S T : List Nat} {p : Nat → Bool} (h : Apart adj S p) (hs : ∀ x ∈ T, x ∈ S) : Apart adj T p := fun u hu v hv => h u (hs u hu) v (hs v hv)
theorem opts_sub {b : Bool} {adj : Adj} {S T : List Nat} (h : T ∈ opts b adj S) : ∀ x ∈ T, x ∈ S := by
  cases b with
  | false =>
    obtain ⟨v, hv, rfl⟩ := mem_optsV.mp h
    exact fun x hx => (List.mem_filter.mp hx).1
  | true =>
    obtain ⟨u, hu, v, hv, _, _, rfl⟩ := mem_optsE.mp h
    exact fun x hx => (List.mem_filter.mp hx).1
theorem fil_comm (p q : Nat → Bool) (S : List Nat) : (S.filter p).filter q = (S.filter q).filter p := by
  rw [List.filter_filter, List.filter_filter]
  exact List.filter_congr fun x _ => Bool.and_comm _ _
theorem fil_id {p q : Nat → Bool} {S : List Nat} (h : ∀ x ∈ S, q x = true → p x = true) : (S.filter p).filter q = S.filter q := by
  rw [List.filter_filter]
  refine List.filter_congr fun x hx => ?_
  cases e : q x with
  | false => rfl
  | true => rw [h x hx e]; rfl
/-- a move in one part -/
theorem up {b : Bool} {adj : Adj} {S A : List Nat} {p : Nat → Bool} (ap : Apart adj S p) (h : A ∈ opts b adj (S.filter p)) : ∃ T ∈ opts b adj S, T.filter p = A ∧ T.filter (fun x => !p x) = S.filter (fun x => !p x) := by
  cases b with
  | false =>
    obtain ⟨v, hv, rfl⟩ := mem_optsV.mp h
    obtain ⟨hv1, hv2⟩ := List.mem_filter.mp hv
    refine ⟨_, mem_optsV.mpr ⟨v, hv1, rfl⟩, fil_comm _ _ _, fil_id fun x hx hq => ?_⟩
    simp at hq
    have := (ap v hv1 x hx hv2 hq).1
    rw [this]
    simp
    intro e
    subst e
    rw [hv2] at hq
    cases hq
  | true =>
    obtain ⟨u, hu, v, hv, h1, h2, rfl⟩ := mem_optsE.mp h
    obtain ⟨hv1, hv2⟩ := List.mem_filter.mp hv
    obtain ⟨hu1, hu2⟩ := List.mem_filter.mp hu
    refine ⟨_, mem_optsE.mpr ⟨u, hu1, v, hv1, h1, h2, rfl⟩, fil_comm _ _ _, fil_id fun x hx hq => ?_⟩
    simp at hq
    simp
    constructor
    · intro e; subst e; rw [hu2] at hq; cases hq
    · intro e; subst e; rw [hv2] at hq; cases hq
theorem down {b : Bool} {adj : Adj} {S T : List Nat} {p : Nat → Bool} (ap : Apart adj S p) (h : T ∈ opts b adj S) :
    (T.filter p ∈ opts b adj (S.filter p) ∧ T.filter (fun x => !p x) = S.filter (fun x => !p x)) ∨ (T.filter (fun x => !p x) ∈ opts b adj (S.filter fun x => !p x) ∧ T.filter p = S.filter p) := by
  cases b with
  | false =>
    obtain ⟨v, hv, rfl⟩ := mem_optsV.mp h
    cases hp : p v with
    | true =>
      refine .inl ⟨mem_optsV.mpr ⟨v, List.mem_filter.mpr ⟨hv, hp⟩, fil_comm _ _ _⟩, fil_id fun x hx hq => ?_⟩
      simp at hq
      rw [(ap v hv x hx hp hq).1]
      simp
      intro e; subst e; rw [hp] at hq; cases hq
    | false =>
      refine .inr ⟨mem_optsV.mpr ⟨v, List.mem_filter.mpr ⟨hv, by rw [hp]; rfl⟩, fil_comm _ _ _⟩, fil_id fun x hx hq => ?_⟩
      rw [(ap x hx v hv hq hp).2]
      simp
      intro e; subst e; rw [hp] at hq; cases hq
  | true =>
    obtain ⟨u, hu, v, hv, h1, h2, rfl⟩ := mem_optsE.mp h
    have same : p u = p v := by
      cases e1 : p u <;> cases e2 : p v
      · rfl
      · have := (ap v hv u hu e2 e1).2; rw [h2] at this; cases this
      · have := (ap u hu v hv e1 e2).1; rw [h2] at this; cases this
      · rfl
    cases hp : p u with
    | true =>
      rw [hp] at same
      refine .inl ⟨mem_optsE.mpr ⟨u, List.mem_filter.mpr ⟨hu, hp⟩, v, List.mem_filter.mpr ⟨hv, same.symm⟩, h1, h2, fil_comm _ _ _⟩, fil_id fun x hx hq => ?_⟩
      simp at hq
      simp
      constructor
      · intro e; subst e; rw [hp] at hq; cases hq
      · intro e; subst e; rw [← same] at hq; cases hq
    | false =>
      rw [hp] at same
      refine .inr ⟨mem_optsE.mpr ⟨u, List.mem_filter.mpr ⟨hu, by rw [hp]; rfl⟩, v, List.mem_filter.mpr ⟨hv, by rw [← same]; rfl⟩, h1, h2, fil_comm _ _ _⟩, fil_id fun x hx hq => ?_⟩
      simp
      constructor
      · intro e; subst e; rw [hp] at hq; cases hq
      · intro e; subst e; rw [← same] at hq; cases hq
theorem xr2 (a b : Nat) : N.xr [a, b] = a ^^^ b := by
  show a ^^^ (b ^^^ 0) = _
  rw [Nat.xor_zero]
theorem x1 (x y t : Nat) : x ^^^ (x ^^^ y ^^^ t) ^^^ y = t := by
  rw [Nat.xor_assoc x y t, ← Nat.xor_assoc x x, Nat.xor_self, Nat.zero_xor, Nat.xor_comm y t, Nat.xor_assoc, Nat.xor_self, Nat.xor_zero]
theorem x2 (x y t : Nat) : x ^^^ (y ^^^ (x ^^^ y ^^^ t)) = t := by
  rw [← Nat.xor_assoc, ← Nat.xor_assoc, Nat.xor_self, Nat.zero_xor]
theorem xl {x y t : Nat} (h : x ^^^ y = t ^^^ y) : x = t := by
  have := congrArg (· ^^^ y) h
  simpa only [Nat.xor_assoc, Nat.xor_self, Nat.xor_zero] using this
theorem xrr {x y t : Nat} (h : x ^^^ y = x ^^^ t) : y = t := by
  have := congrArg (x ^^^ ·) h
  simpa only [← Nat.xor_assoc, Nat.xor_self, Nat.zero_xor] using this
/-- two parts without an edge between them add up without carry -/
theorem g_split (b : Bool) (adj : Adj) (p : Nat → Bool) : ∀ (n : Nat) (S : List Nat), S.length < n → Apart adj S p → g b adj S = g b adj (S.filter p) ^^^ g b adj (S.filter fun x => !p x)
  | 0, _, h, _ => absurd h (by omega)
  | n + 1, S, hn, ap => by
    refine N.Mex.uniq (g_mex b adj S) ⟨fun t ht => ?_, fun hm => ?_⟩
    · have ih := fun T (hT : T ∈ opts b adj S) => g_split b adj p n T (by have := opts_lt hT; omega) (ap.sub (opts_sub hT))
      rw [← xr2] at ht
      obtain ⟨z, hz, hlt⟩ := N.nim_less ht
      rw [xr2] at hlt
      simp only [List.mem_cons, List.not_mem_nil, or_false] at hz
      rcases hz with rfl | rfl
      · obtain ⟨A, hA, e⟩ := List.mem_map.mp ((g_mex b adj (S.filter p)).1 _ hlt)
        obtain ⟨T, hT, t1, t2⟩ := up ap hA
        refine List.mem_map.mpr ⟨T, hT, ?_⟩
        rw [ih T hT, t1, t2, e]
        generalize g b adj (S.filter p) = x
        generalize g b adj (S.filter fun x => !p x) = y
        first | exact x1 x y t | exact x2 x y t
      · obtain ⟨A, hA, e⟩ := List.mem_map.mp ((g_mex b adj (S.filter fun x => !p x)).1 _ hlt)
        obtain ⟨T, hT, t1, t2⟩ := up ap.not hA
        simp only [Bool.not_not] at t2
        refine List.mem_map.mpr ⟨T, hT, ?_⟩
        rw [ih T hT, t2, t1, e]
        generalize g b adj (S.filter p) = x
        generalize g b adj (S.filter fun x => !p x) = y
        first | exact x2 x y t | exact x1 x y t
    · obtain ⟨T, hT, e⟩ := List.mem_map.mp hm
      have ih := g_split b adj p n T (by have := opts_lt hT; omega) (ap.sub (opts_sub hT))
      rw [ih] at e
      rcases down ap hT with ⟨h1, h2⟩ | ⟨h1, h2⟩
      · rw [h2] at e
        have e2 : g b adj (T.filter p) = g b adj (S.filter p) := xl e
        exact (g_mex b adj (S.filter p)).2 (List.mem_map.mpr ⟨_, h1, e2⟩)
      · rw [h2] at e
        have e2 : g b adj (T.filter fun x => !p x) = g b adj (S.filter fun x => !p x) := xrr e
        exact (g_mex b adj (S.filter fun x => !p x)).2 (List.mem_map.mpr ⟨_, h1, e2⟩)
end Ky

namespace Ky
structure Same (adj adj' : Adj) (f : Nat → Nat) (S : List Nat) : Prop where
  lt : ∀ u ∈ S, ∀ v ∈ S, (f u < f v ↔ u < v)
  ad : ∀ u ∈ S, ∀ v ∈ S, adj' (f u) (f v) = adj u v
theorem Same.sub {adj adj' : Adj} {f : Nat → Nat} {S T : List Nat} (h : Same adj adj' f S) (hs : ∀ x ∈ T, x ∈ S) : Same adj adj' f T := ⟨fun u hu v hv => h.lt u (hs u hu) v (hs v hv), fun u hu v hv => h.ad u (hs u hu) v (hs v hv)⟩
theorem Same.eq {adj adj' : Adj} {f : Nat → Nat} {S : List Nat} (h : Same adj adj' f S) {u v : Nat} (hu : u ∈ S) (hv : v ∈ S) : (f u = f v ↔ u = v) := by
  have h1 := h.lt u hu v hv
  have h2 := h.lt v hv u hu
  constructor
  · intro e
    rw [e] at h1 h2
    omega
  · intro e; rw [e]
theorem opts_map {b : Bool} {adj adj' : Adj} {f : Nat → Nat} {S T : List Nat} (h : Same adj adj' f S) : T ∈ opts b adj' (S.map f) ↔ ∃ T0 ∈ opts b adj S, T = T0.map f := by
  cases b with
  | false =>
    have key : ∀ v ∈ S, (S.map f).filter (fun o => decide (o ≠ f v) && !adj' (f v) o) = (S.filter fun o => decide (o ≠ v) && !adj v o).map f := fun v hv => by
      rw [List.filter_map]
      congr 1
      refine List.filter_congr fun o ho => ?_
      show (decide (f o ≠ f v) && !adj' (f v) (f o)) = _
      rw [h.ad v hv o ho, decide_eq_decide.mpr (not_congr (h.eq ho hv))]
    constructor
    · intro hT
      obtain ⟨v', hv', rfl⟩ := mem_optsV.mp hT
      obtain ⟨v, hv, rfl⟩ := List.mem_map.mp hv'
      exact ⟨_, mem_optsV.mpr ⟨v, hv, rfl⟩, key v hv⟩
    · rintro ⟨T0, hT, rfl⟩
      obtain ⟨v, hv, rfl⟩ := mem_optsV.mp hT
      exact mem_optsV.mpr ⟨f v, List.mem_map_of_mem hv, (key v hv).symm⟩
  | true =>
    have key : ∀ u ∈ S, ∀ v ∈ S, (S.map f).filter (fun o => decide (o ≠ f u) && decide (o ≠ f v)) = (S.filter fun o => decide (o ≠ u) && decide (o ≠ v)).map f := fun u hu v hv => by
      rw [List.filter_map]
      congr 1
      refine List.filter_congr fun o ho => ?_
      show (decide (f o ≠ f u) && decide (f o ≠ f v)) = _
      rw [decide_eq_decide.mpr (not_congr (h.eq ho hv)), decide_eq_decide.mpr (not_congr (h.eq ho hu))]
    constructor
    · intro hT
      obtain ⟨u', hu', v', hv', h1, h2, rfl⟩ := mem_optsE.mp hT
      obtain ⟨u, hu, rfl⟩ := List.mem_map.mp hu'
      obtain ⟨v, hv, rfl⟩ := List.mem_map.mp hv'
      exact ⟨_, mem_optsE.mpr ⟨u, hu, v, hv, (h.lt u hu v hv).mp h1, by rw [← h.ad u hu v hv]; exact h2, rfl⟩, key u hu v hv⟩
    · rintro ⟨T0, hT, rfl⟩
      obtain ⟨u, hu, v, hv, h1, h2, rfl⟩ := mem_optsE.mp hT
      exact mem_optsE.mpr ⟨f u, List.mem_map_of_mem hu, f v, List.mem_map_of_mem hv, (h.lt u hu v hv).mpr h1, by rw [h.ad u hu v hv]; exact h2, (key u hu v hv).symm⟩
theorem g_map (b : Bool) {adj adj' : Adj} {f : Nat → Nat} : ∀ (n : Nat) (S : List Nat), S.length < n → Same adj adj' f S → g b adj' (S.map f) = g b adj S
  | 0, _, h, _ => absurd h (by omega)
  | n + 1, S, hn, h => by
    refine N.Mex.uniq (g_mex b adj' _) (Mex.congr (fun x => ?_) (g_mex b adj S))
    have ih := fun T (hT : T ∈ opts b adj S) => g_map b n T (by have := opts_lt hT; omega) (h.sub (opts_sub hT))
    constructor
    · intro hx
      obtain ⟨T, hT, rfl⟩ := List.mem_map.mp hx
      exact List.mem_map.mpr ⟨T.map f, (opts_map h).mpr ⟨T, hT, rfl⟩, ih T hT⟩
    · intro hx
      obtain ⟨T', hT', rfl⟩ := List.mem_map.mp hx
      obtain ⟨T, hT, rfl⟩ := (opts_map h).mp hT'
      exact List.mem_map.mpr ⟨T, hT, (ih T hT).symm⟩
theorem g_nil (b : Bool) (adj : Adj) : g b adj [] = 0 := by
  cases b <;> rfl
/-- each place has an image, not next to it -/
structure Like (adj : Adj) (τ : Nat → Nat) (S : List Nat) : Prop where
  cl : ∀ u ∈ S, τ u ∈ S
  inv : ∀ u ∈ S, τ (τ u) = u
  ne : ∀ u ∈ S, τ u ≠ u
  na : ∀ u ∈ S, adj u (τ u) = false
  ad : ∀ u ∈ S, ∀ v ∈ S, adj (τ u) (τ v) = adj u v
theorem like_zero {adj : Adj} {τ : Nat → Nat} : ∀ (n : Nat) (S : List Nat), S.length < n → Like adj τ S → g false adj S = 0
  | 0, _, h, _ => absurd h (by omega)
  | n + 1, S, hn, h => by
    refine N.Mex.uniq (g_mex false adj S) ⟨fun t ht => absurd ht (by omega), fun hm => ?_⟩
    obtain ⟨T, hT, e⟩ := List.mem_map.mp hm
    obtain ⟨v, hv, eT⟩ := mem_optsV.mp hT
    have hw : τ v ∈ T := by
      rw [eT]
      exact List.mem_filter.mpr ⟨h.cl v hv, by rw [h.na v hv, decide_eq_true (h.ne v hv)]; rfl⟩
    let U := T.filter fun o => decide (o ≠ τ v) && !adj (τ v) o
    have hU : U ∈ opts false adj T := mem_optsV.mpr ⟨τ v, hw, rfl⟩
    have mU : ∀ o, o ∈ U ↔ o ∈ S ∧ (o ≠ v ∧ adj v o = false) ∧ o ≠ τ v ∧ adj (τ v) o = false := fun o => by
      show o ∈ T.filter _ ↔ _
      rw [List.mem_filter, eT, List.mem_filter]
      simp [and_assoc]
    have sub : ∀ o ∈ U, o ∈ S := fun o ho => ((mU o).mp ho).1
    have lU : Like adj τ U := by
      refine ⟨fun o ho => ?_, fun o ho => h.inv o (sub o ho), fun o ho => h.ne o (sub o ho), fun o ho => h.na o (sub o ho), fun a ha b hb => h.ad a (sub a ha) b (sub b hb)⟩
      obtain ⟨h1, ⟨h2, h3⟩, h4, h5⟩ := (mU o).mp ho
      refine (mU _).mpr ⟨h.cl o h1, ⟨fun e => h4 (by rw [← e, h.inv o h1]), ?_⟩, fun e => h2 (by rw [← h.inv o h1, e, h.inv v hv]), ?_⟩
      · rw [← h5, ← h.ad (τ v) (h.cl v hv) o h1, h.inv v hv]
      · rw [h.ad v hv o h1, h3]
    have l1 := opts_lt hT
    have l2 := opts_lt hU
    have := like_zero n U (by omega) lU
    have k := (g_mex false adj T).2
    rw [e] at k
    exact k (List.mem_map.mpr ⟨U, hU, this⟩)
/-- no move to 0 -/
theorem none_zero {b : Bool} {adj : Adj} {S T : List Nat} (h : g b adj S = 0) (hT : T ∈ opts b adj S) : g b adj T ≠ 0 := fun e => (h ▸ (g_mex b adj S).2) (List.mem_map.mpr ⟨T, hT, e⟩)
theorem g_side (b : Bool) {adj adjA adjB : Adj} {m n : Nat} (hA : ∀ u < m, ∀ v < m, adj u v = adjA u v) (hB : ∀ u < n, ∀ v < n, adj (u + m) (v + m) = adjB u v)
    (hap : ∀ u < m, ∀ v, m ≤ v → adj u v = false ∧ adj v u = false) : g b adj (List.range (m + n)) = g b adjA (List.range m) ^^^ g b adjB (List.range n) := by
  have e1 : (List.range (m + n)).filter (fun x => decide (x < m)) = (List.range m).map id := by
    rw [List.range_add, List.filter_append, List.filter_eq_self.mpr, List.filter_eq_nil_iff.mpr, List.append_nil, List.map_id]
    · intro x hx
      obtain ⟨y, _, rfl⟩ := List.mem_map.mp hx
      simp
    · intro x hx
      have := List.mem_range.mp hx
      simpa using this
  have e2 : (List.range (m + n)).filter (fun x => !decide (x < m)) = (List.range n).map (· + m) := by
    rw [List.range_add, List.filter_append, List.filter_eq_nil_iff.mpr, List.nil_append, List.filter_eq_self.mpr]
    · exact List.map_congr_left fun x _ => Nat.add_comm m x
    · intro x hx
      obtain ⟨y, _, rfl⟩ := List.mem_map.mp hx
      simp
    · intro x hx
      have := List.mem_range.mp hx
      simpa using this
  rw [g_split b adj (fun x => decide (x < m)) _ (List.range (m + n)) (Nat.lt_succ_self _) (fun u hu v hv h1 h2 => hap u (of_decide_eq_true h1) v (Nat.le_of_not_lt (of_decide_eq_false h2)))]
  rw [e1, e2, g_map b (adj := adjA) (adj' := adj) (f := id) _ (List.range m) (Nat.lt_succ_self _) ⟨fun u _ v _ => Iff.rfl, fun u hu v hv => hA u (List.mem_range.mp hu) v (List.mem_range.mp hv)⟩,
    g_map b (adj := adjB) (adj' := adj) (f := (· + m)) _ (List.range n) (Nat.lt_succ_self _) ⟨fun u _ v _ => by show u + m < v + m ↔ _; omega, fun u hu v hv => hB u (List.mem_range.mp hu) v (List.mem_range.mp hv)⟩]
def adjL : Adj := fun u v => decide (u + 1 = v) || decide (v + 1 = u)
theorem adjL_iff {u v : Nat} : adjL u v = true ↔ u + 1 = v ∨ v + 1 = u := by
  unfold adjL
  simp
theorem adjL_no {u v : Nat} : adjL u v = false ↔ ¬ (u + 1 = v ∨ v + 1 = u) := by
  rw [← adjL_iff]
  simp
/-- what is left of a line behind and before a gap -/
theorem line_gap (b : Bool) (a c n : Nat) (h : a + 1 ≤ c) (hc : c ≤ n) : g b adjL ((List.range n).filter fun o => decide (o < a) || decide (c ≤ o)) = g b adjL (List.range a) ^^^ g b adjL (List.range (n - c)) := by
  rw [g_split b adjL (fun x => decide (x < a)) _ _ (Nat.lt_succ_self _) (fun u hu v hv h1 h2 => by
    have h1 := of_decide_eq_true h1
    have h2 := of_decide_eq_false h2
    have := (List.mem_filter.mp hv).2
    simp [h2] at this
    exact ⟨adjL_no.mpr (by omega), adjL_no.mpr (by omega)⟩)]
  have e1 : ((List.range n).filter fun o => decide (o < a) || decide (c ≤ o)).filter (fun x => decide (x < a)) = List.range a := by
    rw [List.filter_filter, show n = a + (n - a) by omega, List.range_add, List.filter_append, List.filter_eq_self.mpr, List.filter_eq_nil_iff.mpr, List.append_nil]
    · intro x hx
      obtain ⟨y, _, rfl⟩ := List.mem_map.mp hx
      simp
      omega
    · intro x hx
      have := List.mem_range.mp hx
      simp [this]
  have e2 : ((List.range n).filter fun o => decide (o < a) || decide (c ≤ o)).filter (fun x => !decide (x < a)) = (List.range (n - c)).map (· + c) := by
    rw [List.filter_filter, show List.range n = List.range (c + (n - c)) by congr 1; omega, List.range_add, List.filter_append, List.filter_eq_nil_iff.mpr, List.nil_append, List.filter_eq_self.mpr]
    · exact List.map_congr_left fun x _ => Nat.add_comm c x
    · intro x hx
      obtain ⟨y, _, rfl⟩ := List.mem_map.mp hx
      simp
      omega
    · intro x hx
      have := List.mem_range.mp hx
      simp
      omega
  rw [e1, e2, g_map b (adj := adjL) (adj' := adjL) (f := (· + c)) _ (List.range (n - c)) (Nat.lt_succ_self _) ⟨fun u _ v _ => by show u + c < v + c ↔ _; omega, fun u hu v hv => by
    show adjL (u + c) (v + c) = _
    unfold adjL
    rw [show decide (u + c + 1 = v + c) = decide (u + 1 = v) from decide_eq_decide.mpr (by omega), show decide (v + c + 1 = u + c) = decide (v + 1 = u) from decide_eq_decide.mpr (by omega)]⟩]
theorem line_first (n : Nat) : g false adjL (List.range n) = mex ((List.range n).map fun k => g false adjL (List.range (k - 1)) ^^^ g false adjL (List.range (n - (k + 2)))) := by
  rw [g_eq]
  congr 1
  show (optsV adjL (List.range n)).map _ = _
  unfold optsV
  rw [List.map_map]
  refine List.map_congr_left fun k hk => ?_
  have hk := List.mem_range.mp hk
  show g false adjL ((List.range n).filter _) = _
  have e : (List.range n).filter (fun o => decide (o ≠ k) && !adjL k o) = (List.range n).filter fun o => decide (o < k - 1) || decide (min (k + 2) n ≤ o) := by
    refine List.filter_congr fun o ho => ?_
    have ho := List.mem_range.mp ho
    rw [Bool.eq_iff_iff]
    simp [adjL]
    omega
  rw [e, line_gap false (k - 1) (min (k + 2) n) n (by omega) (by omega), show n - min (k + 2) n = n - (k + 2) by omega]
theorem line_second (n : Nat) : g true adjL (List.range n) = mex ((List.range (n - 1)).map fun k => g true adjL (List.range k) ^^^ g true adjL (List.range (n - 2 - k))) := by
  refine N.Mex.uniq (g_mex true adjL _) (Mex.congr (fun x => ?_) (mex_ok _))
  have key : ∀ k, k + 1 < n → g true adjL ((List.range n).filter fun o => decide (o ≠ k) && decide (o ≠ k + 1)) = g true adjL (List.range k) ^^^ g true adjL (List.range (n - 2 - k)) := fun k hk => by
    have e : (List.range n).filter (fun o => decide (o ≠ k) && decide (o ≠ k + 1)) = (List.range n).filter fun o => decide (o < k) || decide (k + 2 ≤ o) := by
      refine List.filter_congr fun o ho => ?_
      rw [Bool.eq_iff_iff]
      simp
      omega
    rw [e, line_gap true k (k + 2) n (by omega) (by omega), show n - (k + 2) = n - 2 - k by omega]
  rw [List.mem_map, List.mem_map]
  constructor
  · rintro ⟨k, hk, rfl⟩
    have hk := List.mem_range.mp hk
    exact ⟨_, mem_optsE.mpr ⟨k, List.mem_range.mpr (by omega), k + 1, List.mem_range.mpr (by omega), by omega, adjL_iff.mpr (.inl rfl), rfl⟩, key k (by omega)⟩
  · rintro ⟨T, hT, rfl⟩
    obtain ⟨u, hu, v, hv, h1, h2, rfl⟩ := mem_optsE.mp hT
    have hu := List.mem_range.mp hu
    have hv := List.mem_range.mp hv
    have : v = u + 1 := by rcases adjL_iff.mp h2 with h | h <;> omega
    subst this
    exact ⟨u, List.mem_range.mpr (by omega), (key u hv).symm⟩
end Ky

namespace Ky
open N (so so_perm so_sorted)
structure Nx (n : Nat) (nx : List (List Nat)) : Prop where
  len : nx.length = n
  nd : ∀ v, (nx.getD v []).Nodup
  lt : ∀ v, ∀ o ∈ nx.getD v [], o < n
  sy : ∀ u v, v ∈ nx.getD u [] → u ∈ nx.getD v []
def adjN (nx : List (List Nat)) : Adj := fun u v => decide (v ∈ nx.getD u [])
/-- an ascending row of places -/
def As (n : Nat) (S : List Nat) : Prop := S = (List.range n).filter fun x => decide (x ∈ S)
theorem As.range (n : Nat) : As n (List.range n) := (List.filter_eq_self.mpr fun x hx => decide_eq_true hx).symm
theorem As.lt {n : Nat} {S : List Nat} (h : As n S) {x : Nat} (hx : x ∈ S) : x < n := by
  rw [h] at hx
  exact List.mem_range.mp (List.mem_filter.mp hx).1
theorem As.pw {n : Nat} {S : List Nat} (h : As n S) : S.Pairwise (· < ·) := by
  rw [h]
  exact List.pairwise_lt_range.sublist List.filter_sublist
theorem As.nd {n : Nat} {S : List Nat} (h : As n S) : S.Nodup := h.pw.imp fun h => Nat.ne_of_lt h
theorem As.len {n : Nat} {S : List Nat} (h : As n S) : S.length ≤ n := by
  rw [h]
  exact Nat.le_trans (List.length_filter_le _ _) (by rw [List.length_range]; exact Nat.le_refl _)
theorem As.fil {n : Nat} {S : List Nat} (h : As n S) (p : Nat → Bool) : As n (S.filter p) := by
  unfold As
  conv => lhs; rw [h]
  rw [List.filter_filter]
  refine List.filter_congr fun x _ => ?_
  rw [Bool.eq_iff_iff]
  simp [List.mem_filter, and_comm]
theorem As.eq {n : Nat} {S T : List Nat} (h : As n S) (k : As n T) (e : ∀ x < n, x ∈ S ↔ x ∈ T) : S = T := by
  rw [h, k]
  refine List.filter_congr fun x hx => ?_
  exact decide_eq_decide.mpr (e x (List.mem_range.mp hx))
theorem so_eq {l m : List Nat} (nd : l.Nodup) (pw : m.Pairwise (· < ·)) (h : ∀ x, x ∈ l ↔ x ∈ m) : so l = m := by
  have p : (so l).Perm m := (so_perm l).trans ((List.perm_ext_iff_of_nodup nd (pw.imp fun h => Nat.ne_of_lt h)).mpr h)
  exact p.eq_of_pairwise (fun a b _ _ h1 h2 => Nat.le_antisymm h1 h2) (so_sorted l) (pw.imp fun h => Nat.le_of_lt h)
/-- the growing of a part -/
structure GI (nx : List (List Nat)) (left : List Nat) (at' : Nat) (p : List Nat) : Prop where
  nd : p.Nodup
  sub : ∀ x ∈ p, x ∈ left
  le : at' ≤ p.length
  cl : ∀ i < at', ∀ o ∈ nx.getD (p.getD i 0) [], o ∈ left → o ∈ p
theorem GI.start {nx : List (List Nat)} {left : List Nat} {a : Nat} (h : a ∈ left) : GI nx left 0 [a] := ⟨by simp, by simpa using h, by simp, fun i hi => absurd hi (by omega)⟩
def gro (nx : List (List Nat)) (left : List Nat) (at' : Nat) (p : List Nat) : List Nat := (nx.getD (p.getD at' 0) []).filter fun o => decide (o ∈ left) && !decide (o ∈ p)
theorem GI.step {n : Nat} {nx : List (List Nat)} {left p : List Nat} {at' : Nat} (N : Nx n nx) (h : GI nx left at' p) (hl : at' < p.length) : GI nx left (at' + 1) (p ++ gro nx left at' p) := by
  have mg : ∀ o, o ∈ gro nx left at' p ↔ o ∈ nx.getD (p.getD at' 0) [] ∧ o ∈ left ∧ o ∉ p := fun o => by
    unfold gro
    rw [List.mem_filter]
    simp
  refine ⟨?_, fun x hx => ?_, by rw [List.length_append]; omega, fun i hi o ho hol => ?_⟩
  · rw [List.nodup_append]
    exact ⟨h.nd, (N.nd _).filter _, fun a ha b hb e => ((mg b).mp hb).2.2 (e ▸ ha)⟩
  · rcases List.mem_append.mp hx with hx | hx
    · exact h.sub x hx
    · exact ((mg x).mp hx).2.1
  · rw [show (p ++ gro nx left at' p).getD i 0 = p.getD i 0 by simp [List.getD_eq_getElem?_getD, List.getElem?_append_left (show i < p.length by omega)]] at ho
    rw [List.mem_append, mg]
    by_cases hp : o ∈ p
    · exact .inl hp
    · rcases Nat.lt_or_ge i at' with h1 | h1
      · exact .inl (h.cl i h1 o ho hol)
      · have : i = at' := by omega
        subst this
        exact .inr ⟨ho, hol, hp⟩
theorem GI.len {nx : List (List Nat)} {left p : List Nat} {at' : Nat} (h : GI nx left at' p) : p.length ≤ left.length := N.nodup_le h.nd h.sub
theorem GI.closed {nx : List (List Nat)} {left p : List Nat} (h : GI nx left p.length p) : ∀ u ∈ p, ∀ o ∈ left, o ∈ nx.getD u [] → o ∈ p := fun u hu o ho hn => by
  obtain ⟨i, hi, e⟩ := List.mem_iff_getElem.mp hu
  exact h.cl i hi o (by rw [show p.getD i 0 = u by rw [List.getD_eq_getElem?_getD, List.getElem?_eq_getElem hi]; exact e]; exact hn) ho
theorem GI.piece {n : Nat} {nx : List (List Nat)} {left p : List Nat} {at' : Nat} (h : GI nx left at' p) (a : As n left) : so p = left.filter fun x => decide (x ∈ p) :=
  so_eq h.nd (a.fil _).pw fun x => by
    rw [List.mem_filter]
    simp only [decide_eq_true_eq]
    exact ⟨fun hx => ⟨h.sub x hx, hx⟩, fun hx => hx.2⟩
theorem GI.split {n : Nat} {nx : List (List Nat)} {left p : List Nat} (N : Nx n nx) (h : GI nx left p.length p) (b : Bool) : g b (adjN nx) left = g b (adjN nx) (left.filter fun x => decide (x ∈ p)) ^^^ g b (adjN nx) (left.filter fun x => !decide (x ∈ p)) := by
  refine g_split b (adjN nx) (fun x => decide (x ∈ p)) _ left (Nat.lt_succ_self _) fun u hu v hv h1 h2 => ?_
  have h1 := of_decide_eq_true h1
  have h2 := of_decide_eq_false h2
  exact ⟨decide_eq_false fun h3 => h2 (h.closed u h1 v hv h3), decide_eq_false fun h3 => h2 (h.closed u h1 v hv (N.sy _ _ h3))⟩
def near (nx : List (List Nat)) (P : List Nat) (v : Nat) : List Nat := (nx.getD v []).filter fun o => decide (o ∈ P)
def behV (nx : List (List Nat)) (P : List Nat) (v : Nat) : List Nat := P.filter fun o => decide (o ≠ v) && !decide (o ∈ near nx P v)
def behE (P : List Nat) (v m : Nat) : List Nat := P.filter fun o => !decide (o ∈ [v, m])
def behAt (b : Bool) (nx : List (List Nat)) (P : List Nat) (v : Nat) : List (List Nat) := if b then ((near nx P v).filter fun m => decide (v < m)).map (behE P v) else [behV nx P v]
def beh (b : Bool) (nx : List (List Nat)) (P : List Nat) : List (List Nat) := P.flatMap (behAt b nx P)
theorem behV_eq (nx : List (List Nat)) (P : List Nat) (v : Nat) : behV nx P v = P.filter fun o => decide (o ≠ v) && !adjN nx v o := List.filter_congr fun o ho => by
  unfold near adjN
  rw [show decide (o ∈ List.filter (fun o => decide (o ∈ P)) (nx.getD v [])) = decide (o ∈ nx.getD v []) from decide_eq_decide.mpr (by rw [List.mem_filter]; simp [ho])]
theorem behE_eq (P : List Nat) (v m : Nat) : behE P v m = P.filter fun o => decide (o ≠ v) && decide (o ≠ m) := List.filter_congr fun o _ => by
  rw [Bool.eq_iff_iff]
  simp
theorem mem_beh {b : Bool} {nx : List (List Nat)} {P T : List Nat} : T ∈ beh b nx P ↔ T ∈ opts b (adjN nx) P := by
  unfold beh
  rw [List.mem_flatMap]
  cases b with
  | false =>
    rw [mem_optsV]
    constructor
    · rintro ⟨v, hv, h⟩
      have : T = behV nx P v := by simpa [behAt] using h
      exact ⟨v, hv, this.trans (behV_eq nx P v)⟩
    · rintro ⟨v, hv, rfl⟩
      exact ⟨v, hv, by simp [behAt, behV_eq]⟩
  | true =>
    rw [mem_optsE]
    constructor
    · rintro ⟨v, hv, h⟩
      obtain ⟨m, hm, rfl⟩ := List.mem_map.mp (show T ∈ ((near nx P v).filter fun m => decide (v < m)).map (behE P v) by simpa [behAt] using h)
      obtain ⟨h1, h2⟩ := List.mem_filter.mp hm
      obtain ⟨h3, h4⟩ := List.mem_filter.mp h1
      exact ⟨v, hv, m, of_decide_eq_true h4, of_decide_eq_true h2, decide_eq_true h3, behE_eq P v m⟩
    · rintro ⟨u, hu, v, hv, h1, h2, rfl⟩
      refine ⟨u, hu, ?_⟩
      show _ ∈ behAt true nx P u
      unfold behAt
      rw [if_pos rfl]
      exact List.mem_map.mpr ⟨v, List.mem_filter.mpr ⟨List.mem_filter.mpr ⟨of_decide_eq_true h2, decide_eq_true hv⟩, decide_eq_true h1⟩, behE_eq P u v⟩
theorem near_len {n : Nat} {nx : List (List Nat)} {P : List Nat} (X : Nx n nx) (v : Nat) : (near nx P v).length ≤ P.length := N.nodup_le ((X.nd v).filter _) fun x hx => of_decide_eq_true (List.mem_filter.mp hx).2
theorem behAt_len {n : Nat} {b : Bool} {nx : List (List Nat)} {P : List Nat} (N : Nx n nx) {v : Nat} (hv : v ∈ P) : (behAt b nx P v).length ≤ P.length := by
  unfold behAt
  split
  · rw [List.length_map]
    exact Nat.le_trans (List.length_filter_le _ _) (near_len N v)
  · cases P with
    | nil => cases hv
    | cons a P => simp
theorem flat_len {α β : Type} {f : α → List β} {k : Nat} : ∀ {l : List α}, (∀ x ∈ l, (f x).length ≤ k) → (l.flatMap f).length ≤ l.length * k
  | [], _ => by simp
  | a :: l, h => by
    have h1 := h a (List.mem_cons_self ..)
    have h2 := flat_len (l := l) fun x hx => h x (List.mem_cons_of_mem _ hx)
    simp only [List.flatMap_cons, List.length_append, List.length_cons, Nat.succ_mul]
    omega
theorem beh_len {n : Nat} {b : Bool} {nx : List (List Nat)} {P : List Nat} (N : Nx n nx) : (beh b nx P).length ≤ P.length * P.length := flat_len fun v hv => behAt_len N hv
theorem beh_mex (b : Bool) (nx : List (List Nat)) (P : List Nat) : N.Mex ((beh b nx P).map (g b (adjN nx))) (g b (adjN nx) P) := Mex.congr (fun x => by
  rw [List.mem_map, List.mem_map]
  constructor <;> rintro ⟨T, h, rfl⟩
  · exact ⟨T, mem_beh.mpr h, rfl⟩
  · exact ⟨T, mem_beh.mp h, rfl⟩) (g_mex b (adjN nx) P)
theorem mex_le {l : List Nat} {k : Nat} (h : N.Mex l k) : k ≤ l.length := by
  have := N.nodup_le (l := List.range k) (m := l) List.nodup_range fun x hx => h.1 x (List.mem_range.mp hx)
  rwa [List.length_range] at this
theorem g_le {n : Nat} {nx : List (List Nat)} (N : Nx n nx) (b : Bool) (P : List Nat) : g b (adjN nx) P ≤ P.length * P.length := by
  have := mex_le (beh_mex b nx P)
  rw [List.length_map] at this
  exact Nat.le_trans this (beh_len N)
theorem beh_as {n : Nat} {b : Bool} {nx : List (List Nat)} {P T : List Nat} (a : As n P) (h : T ∈ beh b nx P) : As n T := by
  cases b with
  | false =>
    obtain ⟨v, _, rfl⟩ := mem_optsV.mp (mem_beh.mp h)
    exact a.fil _
  | true =>
    obtain ⟨u, _, v, _, _, _, rfl⟩ := mem_optsE.mp (mem_beh.mp h)
    exact a.fil _
/-- there are not many rows of places -/
theorem memo_len {n : Nat} {M : List (List Nat)} (nd : M.Nodup) (h : ∀ S ∈ M, As n S) : M.length ≤ 2 ^ n := by
  have h1 : (M.map (N.rk (List.range n))).Nodup := by
    rw [List.nodup_iff_pairwise_ne, List.pairwise_map]
    refine nd.imp_of_mem fun {a b} ha hb ne e => ne ?_
    exact (h a ha).eq (h b hb) fun x hx => N.rk_inj e x (List.mem_range.mpr hx)
  have := N.nodup_le (m := List.range (2 ^ n)) h1 fun x hx => by
    obtain ⟨S, _, rfl⟩ := List.mem_map.mp hx
    have := N.rk_lt_pow (List.range n) S
    rw [List.length_range] at this
    exact List.mem_range.mpr this
  rwa [List.length_map, List.length_range] at this
end Ky

namespace T78
open PySem L2 PyProof.Rows N
open Ky (Adj adjN Nx)
structure Gr (n : Nat) (es : List (Nat × Nat)) : Prop where
  nd : es.Nodup
  lt : ∀ e ∈ es, e.1 < e.2
  le : ∀ e ∈ es, e.2 < n
def adjE (es : List (Nat × Nat)) : Adj := fun u v => decide ((u, v) ∈ es) || decide ((v, u) ∈ es)
def stp (v : Nat) (e : Nat × Nat) : List Nat := (if e.1 = v then [e.2] else []) ++ (if e.2 = v then [e.1] else [])
def row (es : List (Nat × Nat)) (v : Nat) : List Nat := es.flatMap (stp v)
def nxs (n : Nat) (es : List (Nat × Nat)) : List (List Nat) := (List.range n).map (row es)
theorem mem_stp {v o : Nat} {e : Nat × Nat} : o ∈ stp v e ↔ e = (v, o) ∨ e = (o, v) := by
  obtain ⟨a, b⟩ := e
  unfold stp
  rw [List.mem_append]
  simp only [Prod.mk.injEq]
  constructor
  · rintro (h | h)
    · split at h
      · simp at h; exact .inl ⟨by assumption, h.symm⟩
      · cases h
    · split at h
      · simp at h; exact .inr ⟨h.symm, by assumption⟩
      · cases h
  · rintro (⟨rfl, rfl⟩ | ⟨rfl, rfl⟩)
    · exact .inl (by simp)
    · exact .inr (by simp)
theorem mem_row {es : List (Nat × Nat)} {v o : Nat} : o ∈ row es v ↔ (v, o) ∈ es ∨ (o, v) ∈ es := by
  unfold row
  rw [List.mem_flatMap]
  constructor
  · rintro ⟨e, h, ho⟩
    rcases mem_stp.mp ho with rfl | rfl
    · exact .inl h
    · exact .inr h
  · rintro (h | h)
    · exact ⟨_, h, mem_stp.mpr (.inl rfl)⟩
    · exact ⟨_, h, mem_stp.mpr (.inr rfl)⟩
theorem nxs_at {n : Nat} {es : List (Nat × Nat)} {v : Nat} (h : v < n) : (nxs n es).getD v [] = row es v := by
  unfold nxs
  rw [List.getD_eq_getElem?_getD, List.getElem?_map, List.getElem?_range h]
  rfl
theorem nxs_out {n : Nat} {es : List (Nat × Nat)} {v : Nat} (h : n ≤ v) : (nxs n es).getD v [] = [] := by
  unfold nxs
  rw [List.getD_eq_getElem?_getD, List.getElem?_eq_none (by simpa using h)]
  rfl
theorem mem_nxs {n : Nat} {es : List (Nat × Nat)} (G : Gr n es) {v o : Nat} : o ∈ (nxs n es).getD v [] ↔ (v, o) ∈ es ∨ (o, v) ∈ es := by
  rcases Nat.lt_or_ge v n with h | h
  · rw [nxs_at h, mem_row]
  · rw [nxs_out h]
    constructor
    · intro h; cases h
    · rintro (h1 | h1)
      · have := G.lt _ h1; have := G.le _ h1; simp only [] at *; omega
      · have := G.lt _ h1; have := G.le _ h1; simp only [] at *; omega
theorem adj_nxs {n : Nat} {es : List (Nat × Nat)} (G : Gr n es) : adjN (nxs n es) = adjE es := by
  funext u v
  unfold adjN adjE
  rw [Bool.eq_iff_iff, decide_eq_true_eq, mem_nxs G, Bool.or_eq_true, decide_eq_true_eq, decide_eq_true_eq]
theorem row_nd {n : Nat} {es : List (Nat × Nat)} (G : Gr n es) (v : Nat) : (row es v).Nodup := by
  unfold row
  rw [List.nodup_iff_pairwise_ne, List.pairwise_flatMap]
  constructor
  · intro e he
    obtain ⟨a, b⟩ := e
    have := G.lt _ he
    simp only [] at this
    unfold stp
    simp only []
    split
    · split
      · omega
      · simp
    · split <;> simp
  · refine G.nd.imp_of_mem fun {e e'} he he' ne x hx y hy exy => ne ?_
    subst exy
    have h1 := G.lt _ he
    have h2 := G.lt _ he'
    rcases mem_stp.mp hx with rfl | rfl <;> rcases mem_stp.mp hy with rfl | rfl <;> simp only [] at * <;> first | rfl | omega
theorem nx_nxs {n : Nat} {es : List (Nat × Nat)} (G : Gr n es) : Nx n (nxs n es) := by
  refine ⟨by simp [nxs], fun v => ?_, fun v o ho => ?_, fun u v h => (mem_nxs G).mpr ((mem_nxs G).mp h).symm⟩
  · rcases Nat.lt_or_ge v n with h | h
    · rw [nxs_at h]; exact row_nd G v
    · rw [nxs_out h]; exact List.nodup_nil
  · rcases (mem_nxs G).mp ho with h | h
    · exact G.le _ h
    · have := G.lt _ h; have := G.le _ h; simp only [] at *; omega
theorem Gr.take {n : Nat} {es : List (Nat × Nat)} (G : Gr n es) (k : Nat) : Gr n (es.take k) := ⟨G.nd.sublist (List.take_sublist _ _), fun e he => G.lt e (List.mem_of_mem_take he), fun e he => G.le e (List.mem_of_mem_take he)⟩
theorem nxs_snoc {n : Nat} {es : List (Nat × Nat)} {i j : Nat} (hij : i < j) (hj : j < n) : nxs n (es ++ [(i, j)]) = ((nxs n es).set i (row es i ++ [j])).set j (row es j ++ [i]) := by
  refine List.ext_getElem? fun k => ?_
  rw [List.getElem?_set, List.getElem?_set]
  unfold nxs
  simp only [List.length_set, List.length_map, List.length_range, List.getElem?_map]
  have e : row (es ++ [(i, j)]) k = row es k ++ stp k (i, j) := by simp [row]
  rcases Nat.lt_or_ge k n with h | h
  · rw [List.getElem?_range h, Option.map_some, Option.map_some, e]
    unfold stp
    simp only []
    by_cases h1 : i = k
    · subst h1
      have h3 : ¬ j = i := by omega
      simp [h3, h]
    · by_cases h2 : j = k
      · subst h2
        rw [if_pos rfl, if_pos hj, if_neg h1, if_pos rfl]
        simp
      · rw [if_neg h2, if_neg h1, if_neg h1, if_neg h2]
        simp
  · rw [List.getElem?_eq_none (l := List.range n) (by simpa using h)]
    rw [if_neg (by omega), if_neg (by omega)]
    rfl
abbrev pr (e : Nat × Nat) : PyData := .tuple [.int (e.1 : Nat), .int (e.2 : Nat)]
abbrev gra (n : Nat) (es : List (Nat × Nat)) : PyData := .tuple [.int (n : Nat), .tuple (es.map pr)]
def cR (r : List Nat) : Cell := .lst ((nt r).map .d)
def cI (m n : Nat) : Cell := .lst ((List.range n).map fun i => .r (m + 1 + i))
def stN (s : Sto) (rows : List (List Nat)) : Sto := s ++ cI s.length rows.length :: rows.map cR
theorem stN_row {s : Sto} {rows : List (List Nat)} {i : Nat} (h : i < rows.length) : (stN s rows)[s.length + 1 + i]? = some (cR (rows.getD i [])) := by
  unfold stN
  rw [List.getElem?_append_right (by omega), show s.length + 1 + i - s.length = i + 1 by omega, List.getElem?_cons_succ, List.getElem?_map, List.getD_eq_getElem?_getD, List.getElem?_eq_getElem h]
  rfl
theorem stN_set {s : Sto} {rows : List (List Nat)} {i : Nat} {r : List Nat} : (stN s rows).set (s.length + 1 + i) (cR r) = stN s (rows.set i r) := by
  unfold stN
  rw [List.set_append_right _ _ (by omega), show s.length + 1 + i - s.length = i + 1 by omega, List.set_cons_succ, List.length_set, List.map_set]
theorem stN_top {s : Sto} {rows : List (List Nat)} : (stN s rows)[s.length]? = some (cI s.length rows.length) := by
  unfold stN
  rw [List.getElem?_append_right (Nat.le_refl _), Nat.sub_self]
  rfl
theorem itF_row {s' : Sto} {m n i : Nat} (h : s'[m]? = some (cI m n)) (hi : i < n) : itF s' (.r m) (.d (.int (i : Nat))) = some (.r (m + 1 + i)) := itF_l h (N.atI_nat (by
  rw [List.getElem?_map, List.getElem?_range hi]
  rfl))
theorem rng0' {m : Int} {n : Nat} (h : m = (n : Nat)) : rngD 0 m.toNat = (List.range n).map fun k => .d (.int (k : Nat)) := by
  subst h
  unfold rngD
  refine List.map_congr_left fun k _ => ?_
  rw [Int.zero_add]
theorem lc_rows (s : Sto) (e0 : Lo) (h4 : 4 < e0.length) : ∀ (l : List Nat) (n : Nat), n + l.length ≤ lim → lcL s.length none (gName 4) tTrue (eLst true aNil) e0 (l.map fun k => D.d (.int (k : Nat))) (stN s (List.replicate n [])) = some (stN s (List.replicate (n + l.length) []))
  | [], n, _ => by
    rw [List.map_nil]
    unfold lcL
    rw [if_pos (by trivial)]
    rfl
  | x :: l, n, hl => by
    rw [List.map_cons]
    unfold lcL
    rw [if_pos (by trivial)]
    have e1 : (eLst true aNil) (e0.set 4 (some (D.d (.int (x : Nat))))) (stN s (List.replicate n [])) = some (.r (stN s (List.replicate n [])).length, stN s (List.replicate n []) ++ [.lst []]) := rfl
    simp only [g_name, tTrue, e1]
    have e2 : (stN s (List.replicate n []) ++ [Cell.lst []])[s.length]? = some (cI s.length n) := by
      rw [List.getElem?_append_left (by simp [stN])]
      have := stN_top (s := s) (rows := List.replicate n [])
      rwa [List.length_replicate] at this
    rw [e2]
    unfold cI
    simp only []
    rw [if_pos (by simp at hl ⊢; omega)]
    have e3 : (stN s (List.replicate n []) ++ [Cell.lst []]).set s.length (.lst ((List.range n).map (fun i => D.r (s.length + 1 + i)) ++ [.r (stN s (List.replicate n [])).length])) = stN s (List.replicate (n + 1) []) := by
      unfold stN
      rw [List.append_assoc, List.set_append_right _ _ (Nat.le_refl _), Nat.sub_self, List.cons_append, List.set_cons_zero, List.replicate_succ' , List.map_append]
      congr 1
      congr 1
      unfold cI
      simp [List.range_succ]
      omega
    rw [e3, lc_rows s e0 h4 l (n + 1) (by simp at hl ⊢; omega)]
    rw [List.length_cons, show n + 1 + l.length = n + (l.length + 1) by omega]
theorem rng_hi {n : Nat} (h1 : n ≤ 100) {e : Lo} (he : e[1]? = some (some (.d (.int (n : Nat))))) (s : Sto) : N.iRng1 (aCons (eVar 1) aNil) e s = some ((List.range n).map fun k => D.d (.int (k : Nat)), none, s) := by
  have e1 : aCons (eVar 1) aNil e s = some ([.d (.int (n : Nat))], s) := by
    obtain ⟨_, _, h, rfl, rfl⟩ : R (aCons (eVar 1) aNil e s) fun d s1 => d = [.d (.int (n : Nat))] ∧ s1 = s := by
      simp only [Rs_nil, R_call, R_cons, R_nil, R_Var, R_C, R_bin, R_cmp, R_tcmp, R_tOr, R_tAnd, R_tNot, R_tVal, R_tTrue, R_ite, R_eAnd, R_eOr, R_eNot, R_neg, R_tup, R_isi, R_some, Rc_some, N.v_eq, N.v_ne, N.v_lt, N.v_le, N.v_gt, N.v_ge, N.v_add, N.v_sub, N.v_iadd, N.v_xor, N.v_int, N.tru_b, N.pd_d, N.data_nil, N.data_cons, N.len_t, N.v_tupT, N.g_name, N.isNone_n, N.isNone_t, N.isNone_i, N.v_isN, N.v_isNn, N.v_eqB, N.v_neB, List.set_cons_succ, List.set_cons_zero, List.getElem?_cons_succ, List.getElem?_cons_zero, Bool.not_true, Bool.not_false, Bool.false_eq_true, Bool.true_eq_false, eq_self, true_implies, false_implies, true_and, and_true, decide_true, decide_false, Int.zero_add, N.R_sl, N.R_it, R_oNone, R_oSome, wipeN, N.R_lst, N.R_mkF, N.R_mkT, N.R_meth, N.v_addT, Ri_rng1, Ri_rng2, Ri_seq, he]
    exact h
  unfold N.iRng1
  rw [e1]
  simp only []
  rw [if_pos (by omega), rng0' rfl]
theorem rows_mk {n : Nat} (h1 : n ≤ 100) {e : Lo} (he : e[1]? = some (some (.d (.int (n : Nat))))) (h4 : 4 < e.length) (s : Sto) : eLc true [4] (N.iRng1 (aCons (eVar 1) aNil)) (gName 4) tTrue (eLst true aNil) e s = some (.r s.length, stN s (List.replicate n [])) := by
  have hk := lc_rows s (wipeN e [4]) (by rw [wipeN_len]; exact h4) (List.range n) 0 (by rw [List.length_range]; unfold lim; omega)
  rw [show stN s (List.replicate 0 []) = s ++ [.lst []] from rfl, Nat.zero_add, List.length_range] at hk
  unfold eLc
  rw [rng_hi h1 he]
  simp only []
  rw [hk]
  simp only []
  unfold lcFin
  rw [stN_top (s := s) (rows := List.replicate n [])]
  rfl
theorem rows_nil (n : Nat) : nxs n [] = List.replicate n [] := by
  unfold nxs
  refine List.eq_replicate_iff.mpr ⟨by simp, fun b hb => ?_⟩
  obtain ⟨x, _, rfl⟩ := List.mem_map.mp hb
  rfl
theorem nexts_ok {n : Nat} {es : List (Nat × Nat)} (G : Gr n es) (h0 : 0 < n) (h1 : n ≤ 100) (h2 : es.length ≤ 10000) (s : Sto) : m_nexts_of s [.d (gra n es)] = some (.r s.length, stN s (nxs n es)) := by
  apply R.eq
  unfold m_nexts_of b_nexts_of
  simp only [R_fn]
  refine ⟨rfl, ?_⟩
  simp only [N.thn_nx, N.thn_rt, Rs_seq, Rs_set, Rs_ret, Rs_expr, Rs_nil, Rs_if, Rs_asg, Rs_aug, R_call, R_cons, R_nil, R_Var, R_C, R_bin, R_cmp, R_tcmp, R_tOr, R_tAnd, R_tNot, R_tVal, R_tTrue, R_ite, R_eAnd, R_eOr, R_eNot, R_neg, R_tup, R_isi, R_some, Rc_some, N.v_eq, N.v_ne, N.v_lt, N.v_le, N.v_gt, N.v_ge, N.v_add, N.v_sub, N.v_iadd, N.v_xor, N.v_int, N.tru_b, N.pd_d, N.data_nil, N.data_cons, N.len_t, N.v_tupT, N.g_name, N.isNone_n, N.isNone_t, N.isNone_i, N.v_isN, N.v_isNn, N.v_eqB, N.v_neB, List.set_cons_succ, List.set_cons_zero, List.getElem?_cons_succ, List.getElem?_cons_zero, Bool.not_true, Bool.not_false, Bool.false_eq_true, Bool.true_eq_false, eq_self, true_implies, false_implies, true_and, and_true, decide_true, decide_false, Int.zero_add, N.R_sl, N.R_it, R_oNone, R_oSome, wipeN, N.R_lst, N.R_mkF, N.R_mkT, N.R_meth, N.v_addT, Ri_rng1, Ri_rng2, Ri_seq, N.g_tup, N.gs_cons, N.gs_nil, N.gs_len, List.map_cons, List.map_nil, List.cons_append, List.nil_append, List.length_cons, List.length_nil, List.replicate, if_true, Nat.reduceSub, Nat.reduceAdd]
  rw [rows_mk h1 rfl (by simp) s, ← rows_nil n]
  simp only [N.thn_nx, N.thn_rt, Rs_seq, Rs_set, Rs_ret, Rs_expr, Rs_nil, Rs_if, Rs_asg, Rs_aug, R_call, R_cons, R_nil, R_Var, R_C, R_bin, R_cmp, R_tcmp, R_tOr, R_tAnd, R_tNot, R_tVal, R_tTrue, R_ite, R_eAnd, R_eOr, R_eNot, R_neg, R_tup, R_isi, R_some, Rc_some, N.v_eq, N.v_ne, N.v_lt, N.v_le, N.v_gt, N.v_ge, N.v_add, N.v_sub, N.v_iadd, N.v_xor, N.v_int, N.tru_b, N.pd_d, N.data_nil, N.data_cons, N.len_t, N.v_tupT, N.g_name, N.isNone_n, N.isNone_t, N.isNone_i, N.v_isN, N.v_isNn, N.v_eqB, N.v_neB, List.set_cons_succ, List.set_cons_zero, List.getElem?_cons_succ, List.getElem?_cons_zero, Bool.not_true, Bool.not_false, Bool.false_eq_true, Bool.true_eq_false, eq_self, true_implies, false_implies, true_and, and_true, decide_true, decide_false, Int.zero_add, N.R_sl, N.R_it, R_oNone, R_oSome, wipeN, N.R_lst, N.R_mkF, N.R_mkT, N.R_meth, N.v_addT, Ri_rng1, Ri_rng2, Ri_seq]
  refine Rs_for es (fun q => .d (pr q)) (fun k e s' => e = [some (D.d (gra n es)), some (.d (.int (n : Nat))), some (.d (.tuple (es.map pr))), some (.r s.length), none, none, none] ∧ s' = stN s (nxs n (es.take k))) ?_ (fun k q e s' hk hi => ?_) (fun e s' hi => ?_)
  · simp only [N.thn_nx, N.thn_rt, Rs_seq, Rs_set, Rs_ret, Rs_expr, Rs_nil, Rs_if, Rs_asg, Rs_aug, R_call, R_cons, R_nil, R_Var, R_C, R_bin, R_cmp, R_tcmp, R_tOr, R_tAnd, R_tNot, R_tVal, R_tTrue, R_ite, R_eAnd, R_eOr, R_eNot, R_neg, R_tup, R_isi, R_some, Rc_some, N.v_eq, N.v_ne, N.v_lt, N.v_le, N.v_gt, N.v_ge, N.v_add, N.v_sub, N.v_iadd, N.v_xor, N.v_int, N.tru_b, N.pd_d, N.data_nil, N.data_cons, N.len_t, N.v_tupT, N.g_name, N.isNone_n, N.isNone_t, N.isNone_i, N.v_isN, N.v_isNn, N.v_eqB, N.v_neB, List.set_cons_succ, List.set_cons_zero, List.getElem?_cons_succ, List.getElem?_cons_zero, Bool.not_true, Bool.not_false, Bool.false_eq_true, Bool.true_eq_false, eq_self, true_implies, false_implies, true_and, and_true, decide_true, decide_false, Int.zero_add, N.R_sl, N.R_it, R_oNone, R_oSome, wipeN, N.R_lst, N.R_mkF, N.R_mkT, N.R_meth, N.v_addT, Ri_rng1, Ri_rng2, Ri_seq, List.map_map, List.take_zero]
    rfl
  · obtain ⟨rfl, rfl⟩ := hi
    obtain ⟨i, j⟩ := q
    obtain ⟨hk1, hk2⟩ := List.getElem?_eq_some_iff.mp hk
    have hm : (i, j) ∈ es := hk2 ▸ List.getElem_mem hk1
    have l1 := G.lt _ hm
    have l2 := G.le _ hm
    simp only [] at l1 l2
    have g1 : nxs n (es.take (k + 1)) = ((nxs n (es.take k)).set i (row (es.take k) i ++ [j])).set j (row (es.take k) j ++ [i]) := by
      rw [← nxs_snoc l1 l2, List.take_succ_eq_append_getElem hk1, hk2]
    have hi1 : i < (nxs n (es.take k)).length := by simp [nxs]; omega
    have hj1 : j < ((nxs n (es.take k)).set i (row (es.take k) i ++ [j])).length := by simp [nxs]; omega
    have ti : itF (stN s (nxs n (es.take k))) (.r s.length) (.d (.int (i : Nat))) = some (.r (s.length + 1 + i)) := itF_row stN_top hi1
    have tj : itF (stN s ((nxs n (es.take k)).set i (row (es.take k) i ++ [j]))) (.r s.length) (.d (.int (j : Nat))) = some (.r (s.length + 1 + j)) := itF_row stN_top hj1
    have ri : (stN s (nxs n (es.take k)))[s.length + 1 + i]? = some (.lst ((nt (row (es.take k) i)).map .d)) := by
      rw [stN_row hi1, nxs_at (by omega)]; rfl
    have rj : (stN s ((nxs n (es.take k)).set i (row (es.take k) i ++ [j])))[s.length + 1 + j]? = some (.lst ((nt (row (es.take k) j)).map .d)) := by
      rw [stN_row hj1, List.getD_eq_getElem?_getD, List.getElem?_set, if_neg (by omega), ← List.getD_eq_getElem?_getD, nxs_at (by omega)]; rfl
    have li : (row (es.take k) i).length < lim := by
      have := N.nodup_le (row_nd (G.take k) i) (m := List.range n) fun x hx => List.mem_range.mpr (by
        rcases mem_row.mp hx with h | h
        · exact (G.take k).le _ h
        · have := (G.take k).lt _ h; have := (G.take k).le _ h; simp only [] at *; omega)
      rw [List.length_range] at this
      unfold lim; omega
    have lj : (row (es.take k) j).length < lim := by
      have := N.nodup_le (row_nd (G.take k) j) (m := List.range n) fun x hx => List.mem_range.mpr (by
        rcases mem_row.mp hx with h | h
        · exact (G.take k).le _ h
        · have := (G.take k).lt _ h; have := (G.take k).le _ h; simp only [] at *; omega)
      rw [List.length_range] at this
      unfold lim; omega
    have si : (stN s (nxs n (es.take k))).set (s.length + 1 + i) (.lst ((nt (row (es.take k) i)).map .d ++ [.d (.int (j : Nat))])) = stN s ((nxs n (es.take k)).set i (row (es.take k) i ++ [j])) := by
      rw [← stN_set]; unfold cR; simp [nt]
    have sj : (stN s ((nxs n (es.take k)).set i (row (es.take k) i ++ [j]))).set (s.length + 1 + j) (.lst ((nt (row (es.take k) j)).map .d ++ [.d (.int (i : Nat))])) = stN s (nxs n (es.take (k + 1))) := by
      rw [g1, ← stN_set (r := row (es.take k) j ++ [i])]; unfold cR; simp [nt]
    simp only [N.thn_nx, N.thn_rt, Rs_seq, Rs_set, Rs_ret, Rs_expr, Rs_nil, Rs_if, Rs_asg, Rs_aug, R_call, R_cons, R_nil, R_Var, R_C, R_bin, R_cmp, R_tcmp, R_tOr, R_tAnd, R_tNot, R_tVal, R_tTrue, R_ite, R_eAnd, R_eOr, R_eNot, R_neg, R_tup, R_isi, R_some, Rc_some, N.v_eq, N.v_ne, N.v_lt, N.v_le, N.v_gt, N.v_ge, N.v_add, N.v_sub, N.v_iadd, N.v_xor, N.v_int, N.tru_b, N.pd_d, N.data_nil, N.data_cons, N.len_t, N.v_tupT, N.g_name, N.isNone_n, N.isNone_t, N.isNone_i, N.v_isN, N.v_isNn, N.v_eqB, N.v_neB, List.set_cons_succ, List.set_cons_zero, List.getElem?_cons_succ, List.getElem?_cons_zero, Bool.not_true, Bool.not_false, Bool.false_eq_true, Bool.true_eq_false, eq_self, true_implies, false_implies, true_and, and_true, decide_true, decide_false, Int.zero_add, N.R_sl, N.R_it, R_oNone, R_oSome, wipeN, N.R_lst, N.R_mkF, N.R_mkT, N.R_meth, N.v_addT, Ri_rng1, Ri_rng2, Ri_seq, N.g_tup, N.gs_cons, N.gs_nil, N.gs_len, if_true, List.length_cons, List.length_nil, Nat.reduceAdd, ti, ri, N.v_app, List.length_map, N.nt_len, li, si, tj, rj, lj, sj]
    rw [aft_nx, trimE_len (by simp [stN, nxs])]
    exact ⟨rfl, rfl⟩
  · obtain ⟨rfl, rfl⟩ := hi
    rw [List.take_length]
    simp only [N.thn_nx, N.thn_rt, Rs_seq, Rs_set, Rs_ret, Rs_expr, Rs_nil, Rs_if, Rs_asg, Rs_aug, R_call, R_cons, R_nil, R_Var, R_C, R_bin, R_cmp, R_tcmp, R_tOr, R_tAnd, R_tNot, R_tVal, R_tTrue, R_ite, R_eAnd, R_eOr, R_eNot, R_neg, R_tup, R_isi, R_some, Rc_some, N.v_eq, N.v_ne, N.v_lt, N.v_le, N.v_gt, N.v_ge, N.v_add, N.v_sub, N.v_iadd, N.v_xor, N.v_int, N.tru_b, N.pd_d, N.data_nil, N.data_cons, N.len_t, N.v_tupT, N.g_name, N.isNone_n, N.isNone_t, N.isNone_i, N.v_isN, N.v_isNn, N.v_eqB, N.v_neB, List.set_cons_succ, List.set_cons_zero, List.getElem?_cons_succ, List.getElem?_cons_zero, Bool.not_true, Bool.not_false, Bool.false_eq_true, Bool.true_eq_false, eq_self, true_implies, false_implies, true_and, and_true, decide_true, decide_false, Int.zero_add, N.R_sl, N.R_it, R_oNone, R_oSome, wipeN, N.R_lst, N.R_mkF, N.R_mkT, N.R_meth, N.v_addT, Ri_rng1, Ri_rng2, Ri_seq]
    rw [show (N.ret false s (.r s.length) (stN s (nxs n es))) = some (.r s.length, stN s (nxs n es)) from ?_]
    · exact R_some.mpr ⟨rfl, rfl⟩
    · unfold N.ret
      simp only []
      rw [if_neg (by omega), if_neg Bool.false_ne_true, stN_top]
      unfold cI
      simp only []
      obtain ⟨m, rfl⟩ : ∃ m, n = m + 1 := ⟨n - 1, by omega⟩
      have e : (nxs (m + 1) es).length = m + 1 := by simp [nxs]
      rw [e, List.range_succ_eq_map, List.map_cons]
      rfl
end T78

namespace T78
open PySem L2 PyProof.Rows N
open Ky (Adj adjN Nx As g GI gro near behV behE behAt beh)
theorem v_inRn {neg : Bool} {j : Nat} {l : List Nat} {x : Nat} {s : Sto} (h : s[j]? = some (.lst ((nt l).map .d))) : cIn neg s (.d (.int (x : Nat))) (.r j) = some (if neg then !decide (x ∈ l) else decide (x ∈ l)) := by
  unfold cIn
  simp only [h, data_map, pd]
  rw [v_inQ (pks_nt l) rfl (Nat.le_trans (Nat.min_le_right _ _) (by simp [PyData.depth])), decide_eq_decide.mpr mem_nt]
theorem v_inLn {neg : Bool} {l : List Nat} {x : Nat} {s : Sto} : cIn neg s (.d (.int (x : Nat))) (.d (.list (nt l))) = some (if neg then !decide (x ∈ l) else decide (x ∈ l)) := by
  rw [v_inL rfl (pks_nt l) rfl (Nat.le_trans (Nat.min_le_right _ _) (by simp [PyData.depth])), decide_eq_decide.mpr mem_nt]
theorem R_sortIr {l : List Nat} {j : Nat} {s : Sto} {Q : D → Sto → Prop} (h : s[j]? = some (.lst ((nt l).map .d))) (q : Q (.d (.list (nt (so l)))) s) : R (bSorted false s [.r j]) Q := by
  have := R_sortI (l := l) (s := s) q
  unfold bSorted asL at this ⊢
  simp only [h] at this ⊢
  exact this
theorem v_iaddL {j : Nat} {ds : List D} {ys : List PyData} {s : Sto} {Q : D → Sto → Prop} (hj : s[j]? = some (.lst ds)) : R (oIadd s (.r j) (.d (.list ys))) Q ↔ ds.length + ys.length ≤ lim ∧ Q (.r j) (s.set j (.lst (ds ++ ys.map .d))) := by
  unfold oIadd asL
  simp only [hj, List.length_map]
  by_cases h : ds.length + ys.length ≤ lim
  · simp [h]
  · simp [h]
/-- the rows of neighbours stand in the store -/
structure RV (m n : Nat) (nx : List (List Nat)) (s : Sto) : Prop where
  top : s[m]? = some (cI m n)
  row : ∀ i < n, s[m + 1 + i]? = some (cR (nx.getD i []))
theorem get_app {s t : Sto} {j : Nat} {c : Cell} (h : s[j]? = some c) : (s ++ t)[j]? = some c := by
  rw [List.getElem?_append_left (List.getElem?_eq_some_iff.mp h).1]
  exact h
theorem RV.app {m n : Nat} {nx : List (List Nat)} {s : Sto} (h : RV m n nx s) (t : Sto) : RV m n nx (s ++ t) := ⟨get_app h.top, fun i hi => get_app (h.row i hi)⟩
abbrev enI (x : Nat) : D := .d (.int (x : Nat))
theorem cR_eq (r : List Nat) : cR r = .lst (r.map enI) := by
  unfold cR nt
  rw [List.map_map]
  rfl
def enP (P : List Nat) : PyData := .list (nt P)
def cL (L : List (List Nat)) : Cell := .lst (L.map fun P => .d (enP P))
/-- what pieces_of says -/
structure Pcs (n : Nat) (nx : List (List Nat)) (S : List Nat) (L : List (List Nat)) : Prop where
  as : ∀ P ∈ L, As n P
  ne : ∀ P ∈ L, P ≠ []
  sub : ∀ P ∈ L, ∀ x ∈ P, x ∈ S
  xr : ∀ b, xr (L.map (g b (adjN nx))) = g b (adjN nx) S
  len : L.length ≤ S.length
theorem R_int_filter {l : List Nat} {p : Nat → Bool} {i : Nat} {mi : MI} {mt : MT} {e : Lo} {s : Sto} {Q : D → Sto → Prop} (hi : Ri (mi e s) fun items ck s1 => items = l.map enI ∧ ck = none ∧ s1 = s) (hie : i < e.length) (hl : l.length ≤ lim)
    (h : ∀ x ∈ l, ∀ acc, R (mt ((wipeN e [i]).set i (some (enI x))) (s ++ [.lst acc])) fun b s2 => b = p x ∧ s2 = s ++ [.lst acc]) (q : Q (.d (.list (nt (l.filter p)))) s) : R (eLc false [i] mi (gName i) mt (eVar i) e s) Q := by
  refine R_lc l enI (fun n => .int (n : Nat)) p hi (fun x hx acc => ?_) hl q
  rw [g_name, Rc_some]
  refine (h x hx acc).imp fun b s2 hb => ⟨hb.1, hb.2, fun _ => ?_⟩
  rw [R_Var, List.getElem?_set, if_pos rfl, if_pos (by rw [wipeN_len]; exact hie)]
  exact ⟨rfl, rfl⟩
theorem R_int_filterR {j : Nat} {l : List Nat} {p : Nat → Bool} {i : Nat} {mi : MI} {mt : MT} {e : Lo} {s : Sto} {Q : D → Sto → Prop} (hi : Ri (mi e s) fun items ck s1 => items = l.map enI ∧ ck = some (j, l.map enI) ∧ s1 = s) (hj : s[j]? = some (cR l)) (hie : i < e.length) (hl : l.length ≤ lim)
    (h : ∀ x ∈ l, ∀ acc, R (mt ((wipeN e [i]).set i (some (enI x))) (s ++ [.lst acc])) fun b s2 => b = p x ∧ s2 = s ++ [.lst acc]) (q : Q (.d (.list (nt (l.filter p)))) s) : R (eLc false [i] mi (gName i) mt (eVar i) e s) Q := by
  refine R_lcR j l enI (fun n => .int (n : Nat)) p hi (by rw [hj, cR_eq]) (fun x hx acc => ?_) hl q
  rw [g_name, Rc_some]
  refine (h x hx acc).imp fun b s2 hb => ⟨hb.1, hb.2, fun _ => ?_⟩
  rw [R_Var, List.getElem?_set, if_pos rfl, if_pos (by rw [wipeN_len]; exact hie)]
  exact ⟨rfl, rfl⟩
theorem ret_lst {s : Sto} (W : Wf s) (xs : List PyData) : N.ret false s (.r s.length) (s ++ [.lst (xs.map .d)]) = some (.d (.list xs), s) := by
  unfold N.ret
  simp only []
  rw [if_neg (by omega), if_neg Bool.false_ne_true, List.getElem?_append_right (Nat.le_refl _), Nat.sub_self]
  simp only [List.getElem?_cons_zero, data_map]
  rw [List.set_append_right _ _ (Nat.le_refl _), trim_wf rfl W]
theorem cL_eq (L : List (List Nat)) : cL L = .lst ((L.map enP).map .d) := by
  unfold cL
  rw [List.map_map]
  rfl
def eO (m k : Nat) (S left : List Nat) (a b : Option D) : Lo := [some (.r m), some (.d (.list (nt S))), some (.d (.list (nt left))), some (.r k), a, b, none, none]
theorem wf_lst {s : Sto} (W : Wf s) (xs : List PyData) : Wf (s ++ [.lst (xs.map .d)]) := fun c hc => by
  rw [List.length_append]
  rcases List.mem_append.mp hc with h | h
  · exact below_mono (W c h) (by omega)
  · rw [List.mem_singleton.mp h]
    exact fun j hj => by
      obtain ⟨x, _, h⟩ := List.mem_map.mp hj
      cases h
theorem lo_eO {m k N : Nat} {S left : List Nat} (hm : m < N) (hk : k < N) : LoBelow N (eO m k S left none none) := fun i j h => by
  unfold eO at h
  rcases i with _ | _ | _ | _ | _ | _ | _ | _ | i <;> simp at h <;> omega
theorem pieces_ok {m n : Nat} {nx : List (List Nat)} {S : List Nat} {s : Sto} (hn : n ≤ 100) (X : Nx n nx) (V : RV m n nx s) (W : Wf s) (a : As n S) : ∃ L, Pcs n nx S L ∧ m_pieces_of s [.r m, .d (.list (nt S))] = some (.d (.list (L.map enP)), s) := by
  suffices h : R (m_pieces_of s [.r m, .d (.list (nt S))]) fun d s' => ∃ L, Pcs n nx S L ∧ d = .d (.list (L.map enP)) ∧ s' = s by
    obtain ⟨_, _, h, L, hL, rfl, rfl⟩ := h
    exact ⟨L, hL, h⟩
  unfold m_pieces_of b_pieces_of
  rw [R_fn]
  refine ⟨rfl, ?_⟩
  simp only [List.map_cons, List.map_nil, List.cons_append, List.nil_append, List.length_cons, List.length_nil, Nat.reduceSub, Nat.reduceAdd, List.replicate_succ, List.replicate_zero]
  rw [Rs_seq, Rs_par]
  simp only [Rs_nil, R_call, R_cons, R_nil, R_Var, R_C, R_bin, R_cmp, R_tcmp, R_tOr, R_tAnd, R_tNot, R_tVal, R_tTrue, R_ite, R_eAnd, R_eOr, R_eNot, R_neg, R_tup, R_isi, R_some, Rc_some, N.v_eq, N.v_ne, N.v_lt, N.v_le, N.v_gt, N.v_ge, N.v_add, N.v_sub, N.v_iadd, N.v_xor, N.v_int, N.tru_b, N.pd_d, N.data_nil, N.data_cons, N.len_t, N.v_tupT, N.g_name, N.isNone_n, N.isNone_t, N.isNone_i, N.v_isN, N.v_isNn, N.v_eqB, N.v_neB, List.set_cons_succ, List.set_cons_zero, List.getElem?_cons_succ, List.getElem?_cons_zero, Bool.not_true, Bool.not_false, Bool.false_eq_true, Bool.true_eq_false, eq_self, true_implies, false_implies, true_and, and_true, decide_true, decide_false, Int.zero_add, N.R_sl, N.R_it, R_oNone, R_oSome, wipeN, N.R_lst, N.R_mkF, N.R_mkT, N.R_meth, N.v_addT, Ri_rng1, Ri_rng2, Ri_seq]
  refine R_sortI ?_
  simp only [Rs_nil, R_call, R_cons, R_nil, R_Var, R_C, R_bin, R_cmp, R_tcmp, R_tOr, R_tAnd, R_tNot, R_tVal, R_tTrue, R_ite, R_eAnd, R_eOr, R_eNot, R_neg, R_tup, R_isi, R_some, Rc_some, N.v_eq, N.v_ne, N.v_lt, N.v_le, N.v_gt, N.v_ge, N.v_add, N.v_sub, N.v_iadd, N.v_xor, N.v_int, N.tru_b, N.pd_d, N.data_nil, N.data_cons, N.len_t, N.v_tupT, N.g_name, N.isNone_n, N.isNone_t, N.isNone_i, N.v_isN, N.v_isNn, N.v_eqB, N.v_neB, List.set_cons_succ, List.set_cons_zero, List.getElem?_cons_succ, List.getElem?_cons_zero, Bool.not_true, Bool.not_false, Bool.false_eq_true, Bool.true_eq_false, eq_self, true_implies, false_implies, true_and, and_true, decide_true, decide_false, Int.zero_add, N.R_sl, N.R_it, R_oNone, R_oSome, wipeN, N.R_lst, N.R_mkF, N.R_mkT, N.R_meth, N.v_addT, Ri_rng1, Ri_rng2, Ri_seq, List.length_nil, List.length_cons]
  rw [Ky.so_eq a.nd a.pw fun x => Iff.rfl]
  refine ⟨by unfold lim; omega, ?_⟩
  simp only [List.zip_cons_cons, List.zip_nil_right, List.foldl_cons, List.foldl_nil, List.set_cons_succ, List.set_cons_zero]
  rw [N.thn_nx, Rs_seq]
  refine Rs_while (fun m' e s' => ∃ left L, m' = left.length ∧ As n left ∧ (∀ x ∈ left, x ∈ S) ∧ (∀ P ∈ L, As n P ∧ P ≠ [] ∧ ∀ x ∈ P, x ∈ S) ∧ (∀ b, xr (L.map (g b (adjN nx))) ^^^ g b (adjN nx) left = g b (adjN nx) S) ∧ L.length + left.length ≤ S.length ∧ e = eO m s.length S left none none ∧ s' = s ++ [cL L]) (m := S.length) (by have := a.len; omega) ⟨S, [], rfl, a, fun x h => h, by simp, fun b => by simp [xr], by simp, rfl, rfl⟩ (fun m' e s' hi => ?_)
  obtain ⟨left, L, rfl, al, sl, hL, hx, hlen, rfl, rfl⟩ := hi
  have hS := a.len
  have hl := al.len
  simp only [eO, R_tVal, R_Var, List.getElem?_cons_succ, List.getElem?_cons_zero, N.tru_l, Rc_some]
  cases left with
  | nil =>
    refine ⟨fun _ => ?_, fun h => absurd h (by simp [nt])⟩
    simp only [N.thn_nx, N.thn_rt, Rs_seq, Rs_set, Rs_ret, Rs_expr, Rs_nil, Rs_if, Rs_asg, Rs_aug, R_call, R_cons, R_nil, R_Var, R_C, R_bin, R_cmp, R_tcmp, R_tOr, R_tAnd, R_tNot, R_tVal, R_tTrue, R_ite, R_eAnd, R_eOr, R_eNot, R_neg, R_tup, R_isi, R_some, Rc_some, N.v_eq, N.v_ne, N.v_lt, N.v_le, N.v_gt, N.v_ge, N.v_add, N.v_sub, N.v_iadd, N.v_xor, N.v_int, N.tru_b, N.pd_d, N.data_nil, N.data_cons, N.len_t, N.v_tupT, N.g_name, N.isNone_n, N.isNone_t, N.isNone_i, N.v_isN, N.v_isNn, N.v_eqB, N.v_neB, List.set_cons_succ, List.set_cons_zero, List.getElem?_cons_succ, List.getElem?_cons_zero, Bool.not_true, Bool.not_false, Bool.false_eq_true, Bool.true_eq_false, eq_self, true_implies, false_implies, true_and, and_true, decide_true, decide_false, Int.zero_add, N.R_sl, N.R_it, R_oNone, R_oSome, wipeN, N.R_lst, N.R_mkF, N.R_mkT, N.R_meth, N.v_addT, Ri_rng1, Ri_rng2, Ri_seq]
    rw [cL_eq, ret_lst W]
    refine R_some.mpr ⟨L, ⟨fun P h => (hL P h).1, fun P h => (hL P h).2.1, fun P h => (hL P h).2.2, fun b => ?_, ?_⟩, rfl, rfl⟩
    · have := hx b
      rwa [Ky.g_nil, Nat.xor_zero] at this
    · simpa using hlen
  | cons v lt =>
    refine ⟨fun h => absurd h (by simp [nt]), fun _ => ?_⟩
    rw [Rs_seq, Rs_par]
    have i0 : itF (s ++ [cL L]) (.d (.list (nt (v :: lt)))) (.d (.int 0)) = some (.d (.int (v : Nat))) := itF_tl (N.atI_nat (i := 0) rfl)
    simp only [Rs_nil, R_call, R_cons, R_nil, R_Var, R_C, R_bin, R_cmp, R_tcmp, R_tOr, R_tAnd, R_tNot, R_tVal, R_tTrue, R_ite, R_eAnd, R_eOr, R_eNot, R_neg, R_tup, R_isi, R_some, Rc_some, N.v_eq, N.v_ne, N.v_lt, N.v_le, N.v_gt, N.v_ge, N.v_add, N.v_sub, N.v_iadd, N.v_xor, N.v_int, N.tru_b, N.pd_d, N.data_nil, N.data_cons, N.len_t, N.v_tupT, N.g_name, N.isNone_n, N.isNone_t, N.isNone_i, N.v_isN, N.v_isNn, N.v_eqB, N.v_neB, List.set_cons_succ, List.set_cons_zero, List.getElem?_cons_succ, List.getElem?_cons_zero, Bool.not_true, Bool.not_false, Bool.false_eq_true, Bool.true_eq_false, eq_self, true_implies, false_implies, true_and, and_true, decide_true, decide_false, Int.zero_add, N.R_sl, N.R_it, R_oNone, R_oSome, wipeN, N.R_lst, N.R_mkF, N.R_mkT, N.R_meth, N.v_addT, Ri_rng1, Ri_rng2, Ri_seq, i0, List.length_cons, List.length_nil]
    refine ⟨by unfold lim; omega, ?_⟩
    simp only [List.zip_cons_cons, List.zip_nil_right, List.foldl_cons, List.foldl_nil, List.set_cons_succ, List.set_cons_zero]
    rw [N.thn_nx, Rs_seq]
    have hk : (s ++ [cL L]).length = s.length + 1 := by simp
    simp only [hk]
    refine Rs_while (fun m' e s' => ∃ p k, GI nx (v :: lt) k p ∧ (∃ q, p = v :: q) ∧ m' + k = (v :: lt).length ∧ e = eO m s.length S (v :: lt) (some (.r (s.length + 1))) (some (.d (.int (k : Nat)))) ∧ s' = s ++ [cL L] ++ [cR p]) (m := (v :: lt).length) (by omega) ⟨[v], 0, GI.start (List.mem_cons_self ..), ⟨[], rfl⟩, by omega, rfl, rfl⟩ (fun m' e s' hi => ?_)
    obtain ⟨p, k, gi, hq, hm, rfl, rfl⟩ := hi
    have hv : v ∈ p := by
      obtain ⟨q, rfl⟩ := hq
      exact List.mem_cons_self ..
    have hp := gi.len
    have hkp := gi.le
    have c1 : (s ++ [cL L] ++ [cR p])[s.length + 1]? = some (.lst ((nt p).map .d)) := by
      rw [List.getElem?_append_right (by simp)]
      simp [cR]
    simp only [eO, Rs_nil, R_call, R_cons, R_nil, R_Var, R_C, R_bin, R_cmp, R_tcmp, R_tOr, R_tAnd, R_tNot, R_tVal, R_tTrue, R_ite, R_eAnd, R_eOr, R_eNot, R_neg, R_tup, R_isi, R_some, Rc_some, N.v_eq, N.v_ne, N.v_lt, N.v_le, N.v_gt, N.v_ge, N.v_add, N.v_sub, N.v_iadd, N.v_xor, N.v_int, N.tru_b, N.pd_d, N.data_nil, N.data_cons, N.len_t, N.v_tupT, N.g_name, N.isNone_n, N.isNone_t, N.isNone_i, N.v_isN, N.v_isNn, N.v_eqB, N.v_neB, List.set_cons_succ, List.set_cons_zero, List.getElem?_cons_succ, List.getElem?_cons_zero, Bool.not_true, Bool.not_false, Bool.false_eq_true, Bool.true_eq_false, eq_self, true_implies, false_implies, true_and, and_true, decide_true, decide_false, Int.zero_add, N.R_sl, N.R_it, R_oNone, R_oSome, wipeN, N.R_lst, N.R_mkF, N.R_mkT, N.R_meth, N.v_addT, Ri_rng1, Ri_rng2, Ri_seq, len_r c1, List.length_map, N.nt_len]
    refine ⟨fun h => ?_, fun h => ?_⟩
    · have h := of_decide_eq_false h
      have ek : k = p.length := by omega
      subst ek
      have c0 : (s ++ [cL L] ++ [cR p])[s.length]? = some (.lst ((L.map enP).map .d)) := by
        rw [List.append_assoc, List.getElem?_append_right (Nat.le_refl _), Nat.sub_self, ← cL_eq]
        rfl
      have es : bSorted false (s ++ [cL L] ++ [cR p]) [.r (s.length + 1)] = some (.d (.list (nt (so p))), s ++ [cL L] ++ [cR p]) := R.eq (R_sortIr c1 ⟨rfl, rfl⟩)
      have lL : L.length < lim := by unfold lim; omega
      have ss : (s ++ [cL L] ++ [cR p]).set s.length (.lst ((L.map enP).map .d ++ [.d (.list (nt (so p)))])) = s ++ [cL (L ++ [so p])] ++ [cR p] := by
        rw [List.append_assoc, List.append_assoc, List.set_append_right _ _ (Nat.le_refl _), Nat.sub_self]
        rw [cL_eq, cL_eq]
        simp [enP]
      have ep := gi.piece al
      have c1' : (s ++ [cL (L ++ [so p])] ++ [cR p])[s.length + 1]? = some (.lst ((nt p).map .d)) := by
        rw [List.getElem?_append_right (by simp)]
        simp [cR]
      simp only [N.thn_nx, N.thn_rt, Rs_seq, Rs_set, Rs_ret, Rs_expr, Rs_nil, Rs_if, Rs_asg, Rs_aug, R_call, R_cons, R_nil, R_Var, R_C, R_bin, R_cmp, R_tcmp, R_tOr, R_tAnd, R_tNot, R_tVal, R_tTrue, R_ite, R_eAnd, R_eOr, R_eNot, R_neg, R_tup, R_isi, R_some, Rc_some, N.v_eq, N.v_ne, N.v_lt, N.v_le, N.v_gt, N.v_ge, N.v_add, N.v_sub, N.v_iadd, N.v_xor, N.v_int, N.tru_b, N.pd_d, N.data_nil, N.data_cons, N.len_t, N.v_tupT, N.g_name, N.isNone_n, N.isNone_t, N.isNone_i, N.v_isN, N.v_isNn, N.v_eqB, N.v_neB, List.set_cons_succ, List.set_cons_zero, List.getElem?_cons_succ, List.getElem?_cons_zero, Bool.not_true, Bool.not_false, Bool.false_eq_true, Bool.true_eq_false, eq_self, true_implies, false_implies, true_and, and_true, decide_true, decide_false, Int.zero_add, N.R_sl, N.R_it, R_oNone, R_oSome, wipeN, N.R_lst, N.R_mkF, N.R_mkT, N.R_meth, N.v_addT, Ri_rng1, Ri_rng2, Ri_seq, c0, es, N.v_app, List.length_map, lL, ss]
      refine R_int_filter (l := v :: lt) (p := fun x => !decide (x ∈ p)) ?_ (by simp) (by unfold lim; omega) (fun x hx acc => ?_) ?_
      · simp only [Rs_nil, R_call, R_cons, R_nil, R_Var, R_C, R_bin, R_cmp, R_tcmp, R_tOr, R_tAnd, R_tNot, R_tVal, R_tTrue, R_ite, R_eAnd, R_eOr, R_eNot, R_neg, R_tup, R_isi, R_some, Rc_some, N.v_eq, N.v_ne, N.v_lt, N.v_le, N.v_gt, N.v_ge, N.v_add, N.v_sub, N.v_iadd, N.v_xor, N.v_int, N.tru_b, N.pd_d, N.data_nil, N.data_cons, N.len_t, N.v_tupT, N.g_name, N.isNone_n, N.isNone_t, N.isNone_i, N.v_isN, N.v_isNn, N.v_eqB, N.v_neB, List.set_cons_succ, List.set_cons_zero, List.getElem?_cons_succ, List.getElem?_cons_zero, Bool.not_true, Bool.not_false, Bool.false_eq_true, Bool.true_eq_false, eq_self, true_implies, false_implies, true_and, and_true, decide_true, decide_false, Int.zero_add, N.R_sl, N.R_it, R_oNone, R_oSome, wipeN, N.R_lst, N.R_mkF, N.R_mkT, N.R_meth, N.v_addT, Ri_rng1, Ri_rng2, Ri_seq]
        simp [nt]
      · simp only [Rs_nil, R_call, R_cons, R_nil, R_Var, R_C, R_bin, R_cmp, R_tcmp, R_tOr, R_tAnd, R_tNot, R_tVal, R_tTrue, R_ite, R_eAnd, R_eOr, R_eNot, R_neg, R_tup, R_isi, R_some, Rc_some, N.v_eq, N.v_ne, N.v_lt, N.v_le, N.v_gt, N.v_ge, N.v_add, N.v_sub, N.v_iadd, N.v_xor, N.v_int, N.tru_b, N.pd_d, N.data_nil, N.data_cons, N.len_t, N.v_tupT, N.g_name, N.isNone_n, N.isNone_t, N.isNone_i, N.v_isN, N.v_isNn, N.v_eqB, N.v_neB, List.set_cons_succ, List.set_cons_zero, List.getElem?_cons_succ, List.getElem?_cons_zero, Bool.not_true, Bool.not_false, Bool.false_eq_true, Bool.true_eq_false, eq_self, true_implies, false_implies, true_and, and_true, decide_true, decide_false, Int.zero_add, N.R_sl, N.R_it, R_oNone, R_oSome, wipeN, N.R_lst, N.R_mkF, N.R_mkT, N.R_meth, N.v_addT, Ri_rng1, Ri_rng2, Ri_seq]
        rw [v_inRn (get_app c1')]
        exact Rc_some.mpr rfl
      · rw [aft_nx]
        have wS : Wf (s ++ [cL (L ++ [so p])]) := by
          rw [cL_eq]
          exact wf_lst W _
        have hm' := (List.getElem?_eq_some_iff.mp V.top).1
        have lo : LoBelow (s ++ [cL L]).length (eO m s.length S ((v :: lt).filter fun x => !decide (x ∈ p)) none none) := lo_eO (by simp; omega) (by simp)
        refine ⟨((v :: lt).filter fun x => !decide (x ∈ p)).length, ?_, (v :: lt).filter (fun x => !decide (x ∈ p)), L ++ [so p], rfl, al.fil _, fun x hx => sl x (List.mem_filter.mp hx).1, ?_, ?_, ?_, rfl, ?_⟩
        · exact Ky.filter_lt (List.mem_cons_self ..) (by simp [hv])
        · intro P hP
          rcases List.mem_append.mp hP with hP | hP
          · exact hL P hP
          · rw [List.mem_singleton.mp hP, ep]
            refine ⟨al.fil _, ?_, fun x hx => sl x (List.mem_filter.mp hx).1⟩
            exact List.ne_nil_of_mem (List.mem_filter.mpr ⟨List.mem_cons_self .., decide_eq_true hv⟩)
        · intro b
          rw [List.map_append, N.xr_app, ← hx b, gi.split X b, ← ep, Nat.xor_assoc]
          congr 1
          show (g b (adjN nx) (so p) ^^^ 0) ^^^ _ = _
          rw [Nat.xor_zero]
        · have := Ky.filter_lt (p := fun x => !decide (x ∈ p)) (List.mem_cons_self (a := v) (l := lt)) (by simp [hv])
          rw [List.length_append, List.length_singleton]
          omega
        · exact trimE_wf (by simp) wS lo
    · have h := of_decide_eq_true h
      have hkl : k < p.length := by omega
      have hw : p.getD k 0 ∈ p := by
        rw [List.getD_eq_getElem?_getD, List.getElem?_eq_getElem hkl]
        exact List.getElem_mem hkl
      have hwn : p.getD k 0 < n := al.lt (gi.sub _ hw)
      generalize hwe : p.getD k 0 = w at hw hwn
      have V2 := (V.app [cL L]).app [cR p]
      have tk : itF (s ++ [cL L] ++ [cR p]) (.r (s.length + 1)) (.d (.int (k : Nat))) = some (.d (.int (w : Nat))) := itF_l c1 (N.atI_nat (by
        rw [List.getElem?_map, N.nt_get hkl, hwe]
        rfl))
      have tw : itF (s ++ [cL L] ++ [cR p]) (.r m) (.d (.int (w : Nat))) = some (.r (m + 1 + w)) := itF_row V2.top hwn
      have rw' := V2.row w hwn
      have rw2 := rw'.trans (congrArg some (cR_eq _))
      have nl : (nx.getD w []).length ≤ n := by
        have := N.nodup_le (X.nd w) (m := List.range n) fun x hx => List.mem_range.mpr (X.lt w x hx)
        rwa [List.length_range] at this
      rw [Rs_seq]
      simp only [Rs_aug, List.getElem?_cons_succ, List.getElem?_cons_zero]
      refine R_int_filterR (j := m + 1 + w) (l := nx.getD w []) (p := fun o => decide (o ∈ v :: lt) && !decide (o ∈ p)) ?_ rw' (by simp) (by unfold lim; omega) (fun x hx acc => ?_) ?_
      · simp only [Rs_nil, R_call, R_cons, R_nil, R_Var, R_C, R_bin, R_cmp, R_tcmp, R_tOr, R_tAnd, R_tNot, R_tVal, R_tTrue, R_ite, R_eAnd, R_eOr, R_eNot, R_neg, R_tup, R_isi, R_some, Rc_some, N.v_eq, N.v_ne, N.v_lt, N.v_le, N.v_gt, N.v_ge, N.v_add, N.v_sub, N.v_iadd, N.v_xor, N.v_int, N.tru_b, N.pd_d, N.data_nil, N.data_cons, N.len_t, N.v_tupT, N.g_name, N.isNone_n, N.isNone_t, N.isNone_i, N.v_isN, N.v_isNn, N.v_eqB, N.v_neB, List.set_cons_succ, List.set_cons_zero, List.getElem?_cons_succ, List.getElem?_cons_zero, Bool.not_true, Bool.not_false, Bool.false_eq_true, Bool.true_eq_false, eq_self, true_implies, false_implies, true_and, and_true, decide_true, decide_false, Int.zero_add, N.R_sl, N.R_it, R_oNone, R_oSome, wipeN, N.R_lst, N.R_mkF, N.R_mkT, N.R_meth, N.v_addT, Ri_rng1, Ri_rng2, Ri_seq, tk, tw, rw2]
        try exact ⟨rfl, rfl⟩
      · simp only [Rs_nil, R_call, R_cons, R_nil, R_Var, R_C, R_bin, R_cmp, R_tcmp, R_tOr, R_tAnd, R_tNot, R_tVal, R_tTrue, R_ite, R_eAnd, R_eOr, R_eNot, R_neg, R_tup, R_isi, R_some, Rc_some, N.v_eq, N.v_ne, N.v_lt, N.v_le, N.v_gt, N.v_ge, N.v_add, N.v_sub, N.v_iadd, N.v_xor, N.v_int, N.tru_b, N.pd_d, N.data_nil, N.data_cons, N.len_t, N.v_tupT, N.g_name, N.isNone_n, N.isNone_t, N.isNone_i, N.v_isN, N.v_isNn, N.v_eqB, N.v_neB, List.set_cons_succ, List.set_cons_zero, List.getElem?_cons_succ, List.getElem?_cons_zero, Bool.not_true, Bool.not_false, Bool.false_eq_true, Bool.true_eq_false, eq_self, true_implies, false_implies, true_and, and_true, decide_true, decide_false, Int.zero_add, N.R_sl, N.R_it, R_oNone, R_oSome, wipeN, N.R_lst, N.R_mkF, N.R_mkT, N.R_meth, N.v_addT, Ri_rng1, Ri_rng2, Ri_seq, v_inLn, v_inRn (get_app c1)]
        rw [if_neg not_false, if_pos trivial]
        exact ⟨fun h => by rw [h]; rfl, fun h => by rw [h]; rfl⟩
      · rw [v_iaddL c1]
        have fl := List.length_filter_le (fun o => decide (o ∈ v :: lt) && !decide (o ∈ p)) (nx.getD w [])
        refine ⟨by rw [List.length_map, N.nt_len, N.nt_len]; unfold lim; omega, ?_⟩
        have ss : (s ++ [cL L] ++ [cR p]).set (s.length + 1) (.lst ((nt p).map .d ++ (nt ((nx.getD w []).filter fun o => decide (o ∈ v :: lt) && !decide (o ∈ p))).map .d)) = s ++ [cL L] ++ [cR (p ++ gro nx (v :: lt) k p)] := by
          rw [List.set_append_right _ _ (by simp)]
          unfold cR gro
          rw [hwe]
          simp [nt]
        rw [ss]
        simp only [N.thn_nx, N.thn_rt, Rs_seq, Rs_set, Rs_ret, Rs_expr, Rs_nil, Rs_if, Rs_asg, Rs_aug, R_call, R_cons, R_nil, R_Var, R_C, R_bin, R_cmp, R_tcmp, R_tOr, R_tAnd, R_tNot, R_tVal, R_tTrue, R_ite, R_eAnd, R_eOr, R_eNot, R_neg, R_tup, R_isi, R_some, Rc_some, N.v_eq, N.v_ne, N.v_lt, N.v_le, N.v_gt, N.v_ge, N.v_add, N.v_sub, N.v_iadd, N.v_xor, N.v_int, N.tru_b, N.pd_d, N.data_nil, N.data_cons, N.len_t, N.v_tupT, N.g_name, N.isNone_n, N.isNone_t, N.isNone_i, N.v_isN, N.v_isNn, N.v_eqB, N.v_neB, List.set_cons_succ, List.set_cons_zero, List.getElem?_cons_succ, List.getElem?_cons_zero, Bool.not_true, Bool.not_false, Bool.false_eq_true, Bool.true_eq_false, eq_self, true_implies, false_implies, true_and, and_true, decide_true, decide_false, Int.zero_add, N.R_sl, N.R_it, R_oNone, R_oSome, wipeN, N.R_lst, N.R_mkF, N.R_mkT, N.R_meth, N.v_addT, Ri_rng1, Ri_rng2, Ri_seq]
        rw [aft_nx, trimE_len (by simp)]
        refine ⟨m' - 1, by omega, p ++ gro nx (v :: lt) k p, k + 1, gi.step X hkl, ?_, by omega, rfl, rfl⟩
        obtain ⟨q, rfl⟩ := hq
        exact ⟨q ++ gro nx (v :: lt) k (v :: q), rfl⟩
end T78

namespace T78
open PySem L2 PyProof.Rows N
open Ky (Adj adjN Nx As g near behV behE behAt beh)
/-- a game stands in the store -/
structure GV (C : Addr) (o m kk n : Nat) (b : Bool) (nx : List (List Nat)) (s : Sto) : Prop where
  ins : s[o]? = some (.ins C [("nexts", .r m), ("by_edges", .d (.bool b)), ("known", .r kk)])
  rv : RV m n nx s
variable {C : Addr} {o m kk n : Nat} {b : Bool} {nx : List (List Nat)} {s : Sto}
theorem GV.app (h : GV C o m kk n b nx s) (t : Sto) : GV C o m kk n b nx (s ++ t) := ⟨get_app h.ins, h.rv.app t⟩
theorem insAt_of {fs : List (Str × D)} (h : s[o]? = some (.ins C fs)) : insAt C s o = some fs := by
  unfold insAt
  rw [h]
  simp
theorem attr_of {e : Lo} {i : Nat} {f : Str} {fs : List (Str × D)} {d : D} (he : e[i]? = some (some (.r o))) (h : s[o]? = some (.ins C fs)) (hf : fs.lookup f = some d) : eAttr C f (eVar i) e s = some (d, s) := by
  have e1 : eVar i e s = some (.r o, s) := by
    obtain ⟨_, _, h, rfl, rfl⟩ : R (eVar i e s) fun d s1 => d = .r o ∧ s1 = s := by
      simp only [R_Var, he]
      exact ⟨trivial, trivial⟩
    exact h
  unfold eAttr
  rw [e1]
  simp only [insAt_of h, hf]
theorem GV.nexts (h : GV C o m kk n b nx s) {e : Lo} {i : Nat} (he : e[i]? = some (some (.r o))) : eAttr C "nexts" (eVar i) e s = some (.r m, s) := attr_of he h.ins rfl
theorem GV.by (h : GV C o m kk n b nx s) {e : Lo} {i : Nat} (he : e[i]? = some (some (.r o))) : eAttr C "by_edges" (eVar i) e s = some (.d (.bool b), s) := attr_of he h.ins rfl
theorem GV.known (h : GV C o m kk n b nx s) {e : Lo} {i : Nat} (he : e[i]? = some (some (.r o))) : eAttr C "known" (eVar i) e s = some (.r kk, s) := attr_of he h.ins rfl
theorem trimE_cL {s0 : Sto} {e : Lo} {A B : List (List Nat)} : trimE (s0 ++ [cL A]) e (s0 ++ [cL B]) = s0 ++ [cL B] := trimE_len (by simp)
def eB (o k : Nat) (P : List Nat) (a b c : Option D) : Lo := [some (.r o), some (.d (.list (nt P))), some (.r k), a, b, none, c]
theorem nt_enI (P : List Nat) : (nt P).map D.d = P.map enI := by simp [nt]
theorem app_cL {s : Sto} {A : List (List Nat)} {T : List Nat} : (s ++ [cL A]).set s.length (.lst ((A.map enP).map .d ++ [.d (.list (nt T))])) = s ++ [cL (A ++ [T])] := by
  rw [List.set_append_right _ _ (Nat.le_refl _), Nat.sub_self, cL_eq, cL_eq]
  simp [enP]
theorem get_cL {s : Sto} {A : List (List Nat)} : (s ++ [cL A])[s.length]? = some (.lst ((A.map enP).map .d)) := by
  rw [List.getElem?_append_right (Nat.le_refl _), Nat.sub_self, ← cL_eq]
  rfl
theorem behind_ok {P : List Nat} (hn : n ≤ 100) (X : Nx n nx) (V : GV C o m kk n b nx s) (W : Wf s) (a : As n P) : m_Kayles_behind C s [.r o, .d (.list (nt P))] = some (.d (.list ((beh b nx P).map enP)), s) := by
  apply R.eq
  have hP := a.len
  unfold m_Kayles_behind b_Kayles_behind
  rw [R_fn]
  refine ⟨rfl, ?_⟩
  simp only [List.map_cons, List.map_nil, List.cons_append, List.nil_append, List.length_cons, List.length_nil, Nat.reduceSub, Nat.reduceAdd, List.replicate_succ, List.replicate_zero]
  rw [Rs_seq]
  simp only [N.thn_nx, N.thn_rt, Rs_seq, Rs_set, Rs_ret, Rs_expr, Rs_nil, Rs_if, Rs_asg, Rs_aug, R_call, R_cons, R_nil, R_Var, R_C, R_bin, R_cmp, R_tcmp, R_tOr, R_tAnd, R_tNot, R_tVal, R_tTrue, R_ite, R_eAnd, R_eOr, R_eNot, R_neg, R_tup, R_isi, R_some, Rc_some, N.v_eq, N.v_ne, N.v_lt, N.v_le, N.v_gt, N.v_ge, N.v_add, N.v_sub, N.v_iadd, N.v_xor, N.v_int, N.tru_b, N.pd_d, N.data_nil, N.data_cons, N.len_t, N.v_tupT, N.g_name, N.isNone_n, N.isNone_t, N.isNone_i, N.v_isN, N.v_isNn, N.v_eqB, N.v_neB, List.set_cons_succ, List.set_cons_zero, List.getElem?_cons_succ, List.getElem?_cons_zero, Bool.not_true, Bool.not_false, Bool.false_eq_true, Bool.true_eq_false, eq_self, true_implies, false_implies, true_and, and_true, decide_true, decide_false, Int.zero_add, N.R_sl, N.R_it, R_oNone, R_oSome, wipeN, N.R_lst, N.R_mkF, N.R_mkT, N.R_meth, N.v_addT, Ri_rng1, Ri_rng2, Ri_seq, List.length_nil]
  refine ⟨by unfold lim; omega, ?_⟩
  refine Rs_for P enI (fun k e s' => e = eB o s.length P none none none ∧ s' = s ++ [cL ((P.take k).flatMap (behAt b nx P))]) ?_ (fun k v e s' hk hi => ?_) (fun e s' hi => ?_)
  · simp only [Rs_nil, R_call, R_cons, R_nil, R_Var, R_C, R_bin, R_cmp, R_tcmp, R_tOr, R_tAnd, R_tNot, R_tVal, R_tTrue, R_ite, R_eAnd, R_eOr, R_eNot, R_neg, R_tup, R_isi, R_some, Rc_some, N.v_eq, N.v_ne, N.v_lt, N.v_le, N.v_gt, N.v_ge, N.v_add, N.v_sub, N.v_iadd, N.v_xor, N.v_int, N.tru_b, N.pd_d, N.data_nil, N.data_cons, N.len_t, N.v_tupT, N.g_name, N.isNone_n, N.isNone_t, N.isNone_i, N.v_isN, N.v_isNn, N.v_eqB, N.v_neB, List.set_cons_succ, List.set_cons_zero, List.getElem?_cons_succ, List.getElem?_cons_zero, Bool.not_true, Bool.not_false, Bool.false_eq_true, Bool.true_eq_false, eq_self, true_implies, false_implies, true_and, and_true, decide_true, decide_false, Int.zero_add, N.R_sl, N.R_it, R_oNone, R_oSome, wipeN, N.R_lst, N.R_mkF, N.R_mkT, N.R_meth, N.v_addT, Ri_rng1, Ri_rng2, Ri_seq]
    exact ⟨nt_enI P, rfl, rfl⟩
  · obtain ⟨rfl, rfl⟩ := hi
    obtain ⟨hk1, hk2⟩ := List.getElem?_eq_some_iff.mp hk
    have hv : v ∈ P := hk2 ▸ List.getElem_mem hk1
    have hvn := a.lt hv
    have bl := Ky.flat_len (f := behAt b nx P) (k := n) (l := P.take k) fun x hx => Nat.le_trans (Ky.behAt_len X (List.mem_of_mem_take hx)) hP
    have bl2 : ((P.take k).flatMap (behAt b nx P)).length ≤ 10000 := Nat.le_trans bl (Nat.mul_le_mul (m₂ := 100) (n₂ := 100) (by rw [List.length_take]; omega) hn)
    have bn : (P.take (k + 1)).flatMap (behAt b nx P) = (P.take k).flatMap (behAt b nx P) ++ behAt b nx P v := by
      rw [List.take_succ_eq_append_getElem hk1, hk2, List.flatMap_append]
      simp
    generalize hA : (P.take k).flatMap (behAt b nx P) = A at *
    have V1 := V.app [cL A]
    have nl : (nx.getD v []).length ≤ n := by
      have := N.nodup_le (X.nd v) (m := List.range n) fun x hx => List.mem_range.mpr (X.lt v x hx)
      rwa [List.length_range] at this
    rw [g_name, Rc_some]
    simp only [eB, List.set_cons_succ, List.set_cons_zero]
    rw [Rs_seq, Rs_set]
    refine R_int_filterR (j := m + 1 + v) (l := nx.getD v []) (p := fun o => decide (o ∈ P)) ?_ (V1.rv.row v hvn) (by simp) (by unfold lim; omega) (fun x hx acc => ?_) ?_
    · have e1 : eAttr C "nexts" (eVar 0) [some (.r o), some (.d (.list (nt P))), some (.r s.length), some (enI v), none, none, none] (s ++ [cL A]) = some (.r m, s ++ [cL A]) := V1.nexts rfl
      simp only [Rs_nil, R_call, R_cons, R_nil, R_Var, R_C, R_bin, R_cmp, R_tcmp, R_tOr, R_tAnd, R_tNot, R_tVal, R_tTrue, R_ite, R_eAnd, R_eOr, R_eNot, R_neg, R_tup, R_isi, R_some, Rc_some, N.v_eq, N.v_ne, N.v_lt, N.v_le, N.v_gt, N.v_ge, N.v_add, N.v_sub, N.v_iadd, N.v_xor, N.v_int, N.tru_b, N.pd_d, N.data_nil, N.data_cons, N.len_t, N.v_tupT, N.g_name, N.isNone_n, N.isNone_t, N.isNone_i, N.v_isN, N.v_isNn, N.v_eqB, N.v_neB, List.set_cons_succ, List.set_cons_zero, List.getElem?_cons_succ, List.getElem?_cons_zero, Bool.not_true, Bool.not_false, Bool.false_eq_true, Bool.true_eq_false, eq_self, true_implies, false_implies, true_and, and_true, decide_true, decide_false, Int.zero_add, N.R_sl, N.R_it, R_oNone, R_oSome, wipeN, N.R_lst, N.R_mkF, N.R_mkT, N.R_meth, N.v_addT, Ri_rng1, Ri_rng2, Ri_seq, e1, itF_row V1.rv.top hvn, (V1.rv.row v hvn).trans (congrArg some (cR_eq _))]
      try exact ⟨rfl, rfl⟩
    · simp only [Rs_nil, R_call, R_cons, R_nil, R_Var, R_C, R_bin, R_cmp, R_tcmp, R_tOr, R_tAnd, R_tNot, R_tVal, R_tTrue, R_ite, R_eAnd, R_eOr, R_eNot, R_neg, R_tup, R_isi, R_some, Rc_some, N.v_eq, N.v_ne, N.v_lt, N.v_le, N.v_gt, N.v_ge, N.v_add, N.v_sub, N.v_iadd, N.v_xor, N.v_int, N.tru_b, N.pd_d, N.data_nil, N.data_cons, N.len_t, N.v_tupT, N.g_name, N.isNone_n, N.isNone_t, N.isNone_i, N.v_isN, N.v_isNn, N.v_eqB, N.v_neB, List.set_cons_succ, List.set_cons_zero, List.getElem?_cons_succ, List.getElem?_cons_zero, Bool.not_true, Bool.not_false, Bool.false_eq_true, Bool.true_eq_false, eq_self, true_implies, false_implies, true_and, and_true, decide_true, decide_false, Int.zero_add, N.R_sl, N.R_it, R_oNone, R_oSome, wipeN, N.R_lst, N.R_mkF, N.R_mkT, N.R_meth, N.v_addT, Ri_rng1, Ri_rng2, Ri_seq, v_inLn]
      rw [if_neg not_false]
      try exact ⟨rfl, rfl⟩
    · simp only [List.set_cons_succ, List.set_cons_zero]
      rw [N.thn_nx, Rs_seq, Rs_if]
      have e2 : ∀ d1 d2 : Option D, eAttr C "by_edges" (eVar 0) [some (.r o), some (.d (.list (nt P))), some (.r s.length), d1, d2, none, none] (s ++ [cL A]) = some (.d (.bool b), s ++ [cL A]) := fun d1 d2 => V1.by rfl
      simp only [R_tNot, R_tVal, e2, R_some, tru_b, Rc_some]
      cases b with
      | false =>
        refine ⟨fun _ => ?_, fun h => (by cases h)⟩
        simp only [N.thn_nx, N.thn_rt, Rs_seq, Rs_set, Rs_ret, Rs_expr, Rs_nil, Rs_if, Rs_asg, Rs_aug, R_call, R_cons, R_nil, R_Var, R_C, R_bin, R_cmp, R_tcmp, R_tOr, R_tAnd, R_tNot, R_tVal, R_tTrue, R_ite, R_eAnd, R_eOr, R_eNot, R_neg, R_tup, R_isi, R_some, Rc_some, N.v_eq, N.v_ne, N.v_lt, N.v_le, N.v_gt, N.v_ge, N.v_add, N.v_sub, N.v_iadd, N.v_xor, N.v_int, N.tru_b, N.pd_d, N.data_nil, N.data_cons, N.len_t, N.v_tupT, N.g_name, N.isNone_n, N.isNone_t, N.isNone_i, N.v_isN, N.v_isNn, N.v_eqB, N.v_neB, List.set_cons_succ, List.set_cons_zero, List.getElem?_cons_succ, List.getElem?_cons_zero, Bool.not_true, Bool.not_false, Bool.false_eq_true, Bool.true_eq_false, eq_self, true_implies, false_implies, true_and, and_true, decide_true, decide_false, Int.zero_add, N.R_sl, N.R_it, R_oNone, R_oSome, wipeN, N.R_lst, N.R_mkF, N.R_mkT, N.R_meth, N.v_addT, Ri_rng1, Ri_rng2, Ri_seq, get_cL]
        refine R_int_filter (l := P) (p := fun o => decide (o ≠ v) && !decide (o ∈ near nx P v)) ?_ (by simp) (by unfold lim; omega) (fun x hx acc => ?_) ?_
        · simp only [Rs_nil, R_call, R_cons, R_nil, R_Var, R_C, R_bin, R_cmp, R_tcmp, R_tOr, R_tAnd, R_tNot, R_tVal, R_tTrue, R_ite, R_eAnd, R_eOr, R_eNot, R_neg, R_tup, R_isi, R_some, Rc_some, N.v_eq, N.v_ne, N.v_lt, N.v_le, N.v_gt, N.v_ge, N.v_add, N.v_sub, N.v_iadd, N.v_xor, N.v_int, N.tru_b, N.pd_d, N.data_nil, N.data_cons, N.len_t, N.v_tupT, N.g_name, N.isNone_n, N.isNone_t, N.isNone_i, N.v_isN, N.v_isNn, N.v_eqB, N.v_neB, List.set_cons_succ, List.set_cons_zero, List.getElem?_cons_succ, List.getElem?_cons_zero, Bool.not_true, Bool.not_false, Bool.false_eq_true, Bool.true_eq_false, eq_self, true_implies, false_implies, true_and, and_true, decide_true, decide_false, Int.zero_add, N.R_sl, N.R_it, R_oNone, R_oSome, wipeN, N.R_lst, N.R_mkF, N.R_mkT, N.R_meth, N.v_addT, Ri_rng1, Ri_rng2, Ri_seq]
          simp [nt]
        · simp only [Rs_nil, R_call, R_cons, R_nil, R_Var, R_C, R_bin, R_cmp, R_tcmp, R_tOr, R_tAnd, R_tNot, R_tVal, R_tTrue, R_ite, R_eAnd, R_eOr, R_eNot, R_neg, R_tup, R_isi, R_some, Rc_some, N.v_eq, N.v_ne, N.v_lt, N.v_le, N.v_gt, N.v_ge, N.v_add, N.v_sub, N.v_iadd, N.v_xor, N.v_int, N.tru_b, N.pd_d, N.data_nil, N.data_cons, N.len_t, N.v_tupT, N.g_name, N.isNone_n, N.isNone_t, N.isNone_i, N.v_isN, N.v_isNn, N.v_eqB, N.v_neB, List.set_cons_succ, List.set_cons_zero, List.getElem?_cons_succ, List.getElem?_cons_zero, Bool.not_true, Bool.not_false, Bool.false_eq_true, Bool.true_eq_false, eq_self, true_implies, false_implies, true_and, and_true, decide_true, decide_false, Int.zero_add, N.R_sl, N.R_it, R_oNone, R_oSome, wipeN, N.R_lst, N.R_mkF, N.R_mkT, N.R_meth, N.v_addT, Ri_rng1, Ri_rng2, Ri_seq, v_inLn]
          rw [if_pos trivial]
          have e3 : (!decide ((x : Int) = (v : Int))) = decide (x ≠ v) := by
            rw [Bool.eq_iff_iff]; simp; omega
          rw [e3]
          exact ⟨fun h => by rw [h]; rfl, fun h => by rw [h]; rfl⟩
        · simp only [N.thn_nx, N.thn_rt, Rs_seq, Rs_set, Rs_ret, Rs_expr, Rs_nil, Rs_if, Rs_asg, Rs_aug, R_call, R_cons, R_nil, R_Var, R_C, R_bin, R_cmp, R_tcmp, R_tOr, R_tAnd, R_tNot, R_tVal, R_tTrue, R_ite, R_eAnd, R_eOr, R_eNot, R_neg, R_tup, R_isi, R_some, Rc_some, N.v_eq, N.v_ne, N.v_lt, N.v_le, N.v_gt, N.v_ge, N.v_add, N.v_sub, N.v_iadd, N.v_xor, N.v_int, N.tru_b, N.pd_d, N.data_nil, N.data_cons, N.len_t, N.v_tupT, N.g_name, N.isNone_n, N.isNone_t, N.isNone_i, N.v_isN, N.v_isNn, N.v_eqB, N.v_neB, List.set_cons_succ, List.set_cons_zero, List.getElem?_cons_succ, List.getElem?_cons_zero, Bool.not_true, Bool.not_false, Bool.false_eq_true, Bool.true_eq_false, eq_self, true_implies, false_implies, true_and, and_true, decide_true, decide_false, Int.zero_add, N.R_sl, N.R_it, R_oNone, R_oSome, wipeN, N.R_lst, N.R_mkF, N.R_mkT, N.R_meth, N.v_addT, Ri_rng1, Ri_rng2, Ri_seq, get_cL, N.v_app, List.length_map]
          refine ⟨by unfold lim; omega, ?_⟩
          rw [app_cL, aft_nx, trimE_cL, bn]
          exact ⟨rfl, rfl⟩
      | true =>
        refine ⟨fun h => (by cases h), fun _ => ?_⟩
        rw [Rs_seq]
        refine Rs_for (near nx P v) enI (fun k e s' => e = eB o s.length P (some (enI v)) (some (.d (.list (nt (near nx P v))))) none ∧ s' = s ++ [cL (A ++ (((near nx P v).take k).filter fun m => decide (v < m)).map (behE P v))]) ?_ (fun k w e s' hk hi => ?_) (fun e s' hi => ?_)
        · simp only [Rs_nil, R_call, R_cons, R_nil, R_Var, R_C, R_bin, R_cmp, R_tcmp, R_tOr, R_tAnd, R_tNot, R_tVal, R_tTrue, R_ite, R_eAnd, R_eOr, R_eNot, R_neg, R_tup, R_isi, R_some, Rc_some, N.v_eq, N.v_ne, N.v_lt, N.v_le, N.v_gt, N.v_ge, N.v_add, N.v_sub, N.v_iadd, N.v_xor, N.v_int, N.tru_b, N.pd_d, N.data_nil, N.data_cons, N.len_t, N.v_tupT, N.g_name, N.isNone_n, N.isNone_t, N.isNone_i, N.v_isN, N.v_isNn, N.v_eqB, N.v_neB, List.set_cons_succ, List.set_cons_zero, List.getElem?_cons_succ, List.getElem?_cons_zero, Bool.not_true, Bool.not_false, Bool.false_eq_true, Bool.true_eq_false, eq_self, true_implies, false_implies, true_and, and_true, decide_true, decide_false, Int.zero_add, N.R_sl, N.R_it, R_oNone, R_oSome, wipeN, N.R_lst, N.R_mkF, N.R_mkT, N.R_meth, N.v_addT, Ri_rng1, Ri_rng2, Ri_seq]
          exact ⟨nt_enI _, rfl, by simp⟩
        · obtain ⟨rfl, rfl⟩ := hi
          obtain ⟨hk1, hk2⟩ := List.getElem?_eq_some_iff.mp hk
          rw [g_name, Rc_some]
          have hw : (near nx P v).take (k + 1) = (near nx P v).take k ++ [w] := by rw [List.take_succ_eq_append_getElem hk1, hk2]
          generalize hT : (near nx P v).take k = T at *
          have lT : T.length ≤ n := by
            rw [← hT, List.length_take]
            have := Ky.near_len (P := P) X v
            omega
          have lT2 := List.length_filter_le (fun m => decide (v < m)) T
          simp only [eB, N.thn_nx, N.thn_rt, Rs_seq, Rs_set, Rs_ret, Rs_expr, Rs_nil, Rs_if, Rs_asg, Rs_aug, R_call, R_cons, R_nil, R_Var, R_C, R_bin, R_cmp, R_tcmp, R_tOr, R_tAnd, R_tNot, R_tVal, R_tTrue, R_ite, R_eAnd, R_eOr, R_eNot, R_neg, R_tup, R_isi, R_some, Rc_some, N.v_eq, N.v_ne, N.v_lt, N.v_le, N.v_gt, N.v_ge, N.v_add, N.v_sub, N.v_iadd, N.v_xor, N.v_int, N.tru_b, N.pd_d, N.data_nil, N.data_cons, N.len_t, N.v_tupT, N.g_name, N.isNone_n, N.isNone_t, N.isNone_i, N.v_isN, N.v_isNn, N.v_eqB, N.v_neB, List.set_cons_succ, List.set_cons_zero, List.getElem?_cons_succ, List.getElem?_cons_zero, Bool.not_true, Bool.not_false, Bool.false_eq_true, Bool.true_eq_false, eq_self, true_implies, false_implies, true_and, and_true, decide_true, decide_false, Int.zero_add, N.R_sl, N.R_it, R_oNone, R_oSome, wipeN, N.R_lst, N.R_mkF, N.R_mkT, N.R_meth, N.v_addT, Ri_rng1, Ri_rng2, Ri_seq, get_cL]
          refine ⟨fun h => ?_, fun h => ?_⟩
          · have h := of_decide_eq_true h
            have hf : (T ++ [w]).filter (fun m => decide (v < m)) = T.filter (fun m => decide (v < m)) ++ [w] := by
              rw [List.filter_append]
              congr 1
              exact List.filter_eq_self.mpr fun y hy => by
                rw [List.mem_singleton.mp hy]
                exact decide_eq_true (by omega)
            refine R_int_filter (l := P) (p := fun o => !decide (o ∈ [v, w])) ?_ (by simp) (by unfold lim; omega) (fun x hx acc => ?_) ?_
            · simp only [Rs_nil, R_call, R_cons, R_nil, R_Var, R_C, R_bin, R_cmp, R_tcmp, R_tOr, R_tAnd, R_tNot, R_tVal, R_tTrue, R_ite, R_eAnd, R_eOr, R_eNot, R_neg, R_tup, R_isi, R_some, Rc_some, N.v_eq, N.v_ne, N.v_lt, N.v_le, N.v_gt, N.v_ge, N.v_add, N.v_sub, N.v_iadd, N.v_xor, N.v_int, N.tru_b, N.pd_d, N.data_nil, N.data_cons, N.len_t, N.v_tupT, N.g_name, N.isNone_n, N.isNone_t, N.isNone_i, N.v_isN, N.v_isNn, N.v_eqB, N.v_neB, List.set_cons_succ, List.set_cons_zero, List.getElem?_cons_succ, List.getElem?_cons_zero, Bool.not_true, Bool.not_false, Bool.false_eq_true, Bool.true_eq_false, eq_self, true_implies, false_implies, true_and, and_true, decide_true, decide_false, Int.zero_add, N.R_sl, N.R_it, R_oNone, R_oSome, wipeN, N.R_lst, N.R_mkF, N.R_mkT, N.R_meth, N.v_addT, Ri_rng1, Ri_rng2, Ri_seq]
              simp [nt]
            · simp only [Rs_nil, R_call, R_cons, R_nil, R_Var, R_C, R_bin, R_cmp, R_tcmp, R_tOr, R_tAnd, R_tNot, R_tVal, R_tTrue, R_ite, R_eAnd, R_eOr, R_eNot, R_neg, R_tup, R_isi, R_some, Rc_some, N.v_eq, N.v_ne, N.v_lt, N.v_le, N.v_gt, N.v_ge, N.v_add, N.v_sub, N.v_iadd, N.v_xor, N.v_int, N.tru_b, N.pd_d, N.data_nil, N.data_cons, N.len_t, N.v_tupT, N.g_name, N.isNone_n, N.isNone_t, N.isNone_i, N.v_isN, N.v_isNn, N.v_eqB, N.v_neB, List.set_cons_succ, List.set_cons_zero, List.getElem?_cons_succ, List.getElem?_cons_zero, Bool.not_true, Bool.not_false, Bool.false_eq_true, Bool.true_eq_false, eq_self, true_implies, false_implies, true_and, and_true, decide_true, decide_false, Int.zero_add, N.R_sl, N.R_it, R_oNone, R_oSome, wipeN, N.R_lst, N.R_mkF, N.R_mkT, N.R_meth, N.v_addT, Ri_rng1, Ri_rng2, Ri_seq, List.length_cons, List.length_nil]
              refine ⟨by unfold lim; omega, ?_⟩
              rw [show D.d (PyData.tuple [PyData.int (v : Nat), .int (w : Nat)]) = .d (.tuple (nt [v, w])) from rfl, v_inNt]
              exact Rc_some.mpr rfl
            · simp only [N.thn_nx, N.thn_rt, Rs_seq, Rs_set, Rs_ret, Rs_expr, Rs_nil, Rs_if, Rs_asg, Rs_aug, R_call, R_cons, R_nil, R_Var, R_C, R_bin, R_cmp, R_tcmp, R_tOr, R_tAnd, R_tNot, R_tVal, R_tTrue, R_ite, R_eAnd, R_eOr, R_eNot, R_neg, R_tup, R_isi, R_some, Rc_some, N.v_eq, N.v_ne, N.v_lt, N.v_le, N.v_gt, N.v_ge, N.v_add, N.v_sub, N.v_iadd, N.v_xor, N.v_int, N.tru_b, N.pd_d, N.data_nil, N.data_cons, N.len_t, N.v_tupT, N.g_name, N.isNone_n, N.isNone_t, N.isNone_i, N.v_isN, N.v_isNn, N.v_eqB, N.v_neB, List.set_cons_succ, List.set_cons_zero, List.getElem?_cons_succ, List.getElem?_cons_zero, Bool.not_true, Bool.not_false, Bool.false_eq_true, Bool.true_eq_false, eq_self, true_implies, false_implies, true_and, and_true, decide_true, decide_false, Int.zero_add, N.R_sl, N.R_it, R_oNone, R_oSome, wipeN, N.R_lst, N.R_mkF, N.R_mkT, N.R_meth, N.v_addT, Ri_rng1, Ri_rng2, Ri_seq, get_cL, N.v_app, List.length_map]
              refine ⟨by rw [List.length_append, List.length_map]; unfold lim; omega, ?_⟩
              rw [app_cL, aft_nx, trimE_cL, hw, hf, List.map_append, ← List.append_assoc]
              exact ⟨rfl, rfl⟩
          · have h := of_decide_eq_false h
            have hf : (T ++ [w]).filter (fun m => decide (v < m)) = T.filter (fun m => decide (v < m)) := by
              rw [List.filter_append, show [w].filter (fun m => decide (v < m)) = [] from List.filter_eq_nil_iff.mpr fun y hy => by
                rw [List.mem_singleton.mp hy]
                simp; omega]
              exact List.append_nil _
            rw [aft_nx, trimE_cL, hw, hf]
            exact ⟨rfl, rfl⟩
        · obtain ⟨rfl, rfl⟩ := hi
          rw [List.take_length]
          simp only [eB, N.thn_nx, N.thn_rt, Rs_seq, Rs_set, Rs_ret, Rs_expr, Rs_nil, Rs_if, Rs_asg, Rs_aug, R_call, R_cons, R_nil, R_Var, R_C, R_bin, R_cmp, R_tcmp, R_tOr, R_tAnd, R_tNot, R_tVal, R_tTrue, R_ite, R_eAnd, R_eOr, R_eNot, R_neg, R_tup, R_isi, R_some, Rc_some, N.v_eq, N.v_ne, N.v_lt, N.v_le, N.v_gt, N.v_ge, N.v_add, N.v_sub, N.v_iadd, N.v_xor, N.v_int, N.tru_b, N.pd_d, N.data_nil, N.data_cons, N.len_t, N.v_tupT, N.g_name, N.isNone_n, N.isNone_t, N.isNone_i, N.v_isN, N.v_isNn, N.v_eqB, N.v_neB, List.set_cons_succ, List.set_cons_zero, List.getElem?_cons_succ, List.getElem?_cons_zero, Bool.not_true, Bool.not_false, Bool.false_eq_true, Bool.true_eq_false, eq_self, true_implies, false_implies, true_and, and_true, decide_true, decide_false, Int.zero_add, N.R_sl, N.R_it, R_oNone, R_oSome, wipeN, N.R_lst, N.R_mkF, N.R_mkT, N.R_meth, N.v_addT, Ri_rng1, Ri_rng2, Ri_seq]
          rw [aft_nx, trimE_cL, bn]
          exact ⟨rfl, rfl⟩
  · obtain ⟨rfl, rfl⟩ := hi
    rw [List.take_length]
    simp only [N.thn_nx, N.thn_rt, Rs_seq, Rs_set, Rs_ret, Rs_expr, Rs_nil, Rs_if, Rs_asg, Rs_aug, R_call, R_cons, R_nil, R_Var, R_C, R_bin, R_cmp, R_tcmp, R_tOr, R_tAnd, R_tNot, R_tVal, R_tTrue, R_ite, R_eAnd, R_eOr, R_eNot, R_neg, R_tup, R_isi, R_some, Rc_some, N.v_eq, N.v_ne, N.v_lt, N.v_le, N.v_gt, N.v_ge, N.v_add, N.v_sub, N.v_iadd, N.v_xor, N.v_int, N.tru_b, N.pd_d, N.data_nil, N.data_cons, N.len_t, N.v_tupT, N.g_name, N.isNone_n, N.isNone_t, N.isNone_i, N.v_isN, N.v_isNn, N.v_eqB, N.v_neB, List.set_cons_succ, List.set_cons_zero, List.getElem?_cons_succ, List.getElem?_cons_zero, Bool.not_true, Bool.not_false, Bool.false_eq_true, Bool.true_eq_false, eq_self, true_implies, false_implies, true_and, and_true, decide_true, decide_false, Int.zero_add, N.R_sl, N.R_it, R_oNone, R_oSome, wipeN, N.R_lst, N.R_mkF, N.R_mkT, N.R_meth, N.v_addT, Ri_rng1, Ri_rng2, Ri_seq, eB]
    rw [cL_eq, ret_lst W]
    exact R_some.mpr ⟨rfl, rfl⟩
end T78

namespace T78
open PySem L2 PyProof.Rows N
open Ky (Adj adjN Nx As g near behV behE behAt beh)
theorem R_missL {ns : List Nat} {M : Nat} (hl : ns.length ≤ lim) (hM : ∀ n ∈ ns, n < M) (hM2 : M < 2 ^ 63) {s : Sto} {Q : D → Sto → Prop} (q : ∀ k, Mex ns k → Q (.d (.int (k : Nat))) s) : R (m_least_missing s [.d (.list (nt ns))]) Q := by
  unfold m_least_missing b_least_missing
  simp [R_fn]
  refine R_dc ns (fun n => .d (.int (n : Nat))) (fun n => .int (n : Nat)) (fun n => .inl (n : Nat)) (fun _ => .d (.bool true)) (by simp [nt]) (fun x hx s' => by simp [wipeN]) (fun x hx => rfl) hl (fun kvs hk => ?_)
  have hk' (k : Nat) : kHas kvs (.inl (k : Int)) = decide (k ∈ ns) := by
    rw [Bool.eq_iff_iff, hk, decide_eq_true_eq]
    constructor
    · rintro ⟨x, h, e⟩
      have : k = x := by simp at e; omega
      exact this ▸ h
    · exact fun h => ⟨k, h, rfl⟩
  refine Rs_while (fun m e s' => s' = s ++ [.dk kvs] ∧ ∃ k : Nat, (∀ i < k, i ∈ ns) ∧ m + k = M ∧ e = [some (.d (.list (nt ns))), some (.r s.length), none, some (.d (.int (k : Nat)))]) (m := M) (by omega) ⟨rfl, 0, by simp, by simp, rfl⟩ (fun m e s' hi => ?_)
  obtain ⟨rfl, k, h1, h2, rfl⟩ := hi
  have hin : cIn false (s ++ [.dk kvs]) (.d (.int (k : Nat))) (.r s.length) = some (decide (k ∈ ns)) := by
    rw [v_inK (kvs := kvs) (k := .inl (k : Nat)) (by simp) rfl, hk']
    simp
  simp [hin]
  refine ⟨fun h => ?_, fun h => ?_⟩
  · exact q k ⟨h1, h⟩
  · have := hM k h
    refine ⟨m - 1, by omega, k + 1, fun i hi => ?_, by omega, by simp [wipeN]⟩
    rcases Nat.lt_or_ge i k with h' | h'
    · exact h1 i h'
    · rwa [show i = k by omega]
variable {C : Addr} {o m kk n : Nat} {b : Bool} {nx : List (List Nat)} {s : Sto}
def vf (b : Bool) (nx : List (List Nat)) (T : List Nat) : D := .d (.int (g b (adjN nx) T : Nat))
def Mc (b : Bool) (nx : List (List Nat)) (M : List (List Nat)) : Cell := .dic (DG tup (vf b nx) M)
structure Mok (n : Nat) (M : List (List Nat)) : Prop where
  nd : M.Nodup
  as : ∀ T ∈ M, As n T
theorem Mok.nil : Mok n [] := ⟨List.nodup_nil, fun T h => by cases h⟩
theorem Mok.len {M : List (List Nat)} (h : Mok n M) (hn : n ≤ 12) : M.length < lim := by
  have := Ky.memo_len h.nd h.as
  have h2 : 2 ^ n ≤ 2 ^ 12 := Nat.pow_le_pow_right (by decide) hn
  unfold lim
  omega
theorem Mok.put {M : List (List Nat)} {T : List Nat} (h : Mok n M) (a : As n T) : Mok n (if T ∈ M then M else M ++ [T]) := by
  split
  · exact h
  · rename_i hT
    refine ⟨?_, fun S hS => ?_⟩
    · rw [List.nodup_append]
      exact ⟨h.nd, by simp, fun x hx y hy e => hT (by rw [← List.mem_singleton.mp hy, ← e]; exact hx)⟩
    · rcases List.mem_append.mp hS with hS | hS
      · exact h.as S hS
      · rw [List.mem_singleton.mp hS]; exact a
theorem Mok.put' {M : List (List Nat)} {T : List Nat} (h : Mok n M) (a : As n T) : ∃ M3, Mok n M3 ∧ T ∈ M3 ∧ dPut (DG tup (vf b nx) M) (.tuple (nt T)) (.d (.int (g b (adjN nx) T : Nat))) = DG tup (vf b nx) M3 := by
  have e : dPut (DG tup (vf b nx) M) (.tuple (nt T)) (.d (.int (g b (adjN nx) T : Nat))) = _ := put_DG (kf := tup) (vf := vf b nx) (fun _ _ => tup_inj) M T
  by_cases hT : T ∈ M
  · exact ⟨M, h, hT, e.trans (by rw [if_pos hT])⟩
  · refine ⟨M ++ [T], ?_, List.mem_append_right _ (List.mem_singleton_self _), e.trans (by rw [if_neg hT])⟩
    have := h.put a
    rwa [if_neg hT] at this
theorem set_of {s : Sto} {j : Nat} {c : Cell} (h : s[j]? = some c) : s.set j c = s := by
  obtain ⟨h1, h2⟩ := List.getElem?_eq_some_iff.mp h
  rw [← h2]
  exact List.set_getElem_self h1
theorem GV.set {A B : List (PyData × D)} (h : GV C o m kk n b nx s) (hk : s[kk]? = some (.dic A)) : GV C o m kk n b nx (s.set kk (.dic B)) := by
  have ne : ∀ {j : Nat} {c : Cell}, s[j]? = some c → (∀ A, c ≠ .dic A) → (s.set kk (.dic B))[j]? = some c := fun {j c} hj hc => by
    rw [List.getElem?_set]
    split
    · rename_i e
      subst e
      rw [hk] at hj
      cases hj
      exact (hc A rfl).elim
    · exact hj
  exact ⟨ne h.ins (fun _ e => (by cases e)), ⟨ne h.rv.top (fun _ e => (by cases e)), fun i hi => ne (h.rv.row i hi) (fun _ e => (by cases e))⟩⟩
theorem wf_set {M : List (List Nat)} (W : Wf s) : Wf (s.set kk (Mc b nx M)) := fun c hc => by
  rw [List.length_set]
  rcases List.mem_or_eq_of_mem_set hc with h | h
  · exact W c h
  · rw [h]
    exact DG_below _ _ _ _
theorem get_set {c d : Cell} (h : s[kk]? = some d) : (s.set kk c)[kk]? = some c := by
  rw [List.getElem?_set, if_pos rfl, if_pos (List.getElem?_eq_some_iff.mp h).1]
/-- a game in the store with its memo -/
structure GM (C : Addr) (o m kk n : Nat) (b : Bool) (nx : List (List Nat)) (M : List (List Nat)) (s : Sto) : Prop where
  v : GV C o m kk n b nx s
  wf : Wf s
  ok : Mok n M
  k : s[kk]? = some (Mc b nx M)
theorem GM.set {M M' : List (List Nat)} (h : GM C o m kk n b nx M s) (ok : Mok n M') : GM C o m kk n b nx M' (s.set kk (Mc b nx M')) := ⟨h.v.set h.k, wf_set h.wf, ok, get_set h.k⟩
theorem GM.self {M : List (List Nat)} (h : GM C o m kk n b nx M s) : s.set kk (Mc b nx M) = s := set_of h.k
theorem GM.app {M : List (List Nat)} (h : GM C o m kk n b nx M s) (xs : List PyData) : GM C o m kk n b nx M (s ++ [.lst (xs.map .d)]) := ⟨h.v.app _, wf_lst h.wf xs, h.ok, get_app h.k⟩
theorem GM.lt {M : List (List Nat)} (h : GM C o m kk n b nx M s) : kk < s.length := (List.getElem?_eq_some_iff.mp h.k).1
theorem meth_of {M : List (List Nat)} (h : GM C o m kk n b nx M s) {x : Str} {F : FA} {ms : MA} {e : Lo} {ds : List D} {r : D} {s' : Sto} (hx : List.lookup x [("nexts", D.r m), ("by_edges", .d (.bool b)), ("known", .r kk)] = none) (he : e[0]? = some (some (.r o))) (hm : ms e s = some (ds, s)) (hF : F s (.r o :: ds) = some (r, s')) : eMethC C x F (eVar 0) ms e s = some (r, s') := by
  have e1 : eVar 0 e s = some (.r o, s) := by
    obtain ⟨_, _, h, rfl, rfl⟩ : R (eVar 0 e s) fun d s1 => d = .r o ∧ s1 = s := by
      simp only [R_Var, he]
      exact ⟨trivial, trivial⟩
    exact h
  unfold eMethC
  rw [e1]
  simp only [insAt_of h.v.ins, hx, hm, hF]
theorem one_of {i : Nat} {e : Lo} {d : D} (he : e[i]? = some (some d)) : aCons (eVar i) aNil e s = some ([d], s) := by
  obtain ⟨_, _, h, rfl, rfl⟩ : R (aCons (eVar i) aNil e s) fun ds s1 => ds = [d] ∧ s1 = s := by
    simp only [R_cons, R_nil, R_Var, he]
    exact ⟨trivial, trivial⟩
  exact h
theorem key_of (T : List Nat) : isKey (.tuple (nt T)) = true := tup_key T
theorem value_ok (hn : n ≤ 12) (X : Nx n nx) : ∀ (f : Nat) (S : List Nat) (M : List (List Nat)) (s : Sto), S.length < f → As n S → GM C o m kk n b nx M s → ∃ M', Mok n M' ∧ m_Kayles_value C f s [.r o, .d (.list (nt S))] = some (.d (.int (g b (adjN nx) S : Nat)), s.set kk (Mc b nx M'))
  | 0, _, _, _, h, _, _ => absurd h (by omega)
  | f + 1, S, M, s, hS, a, G => by
    suffices h : R (m_Kayles_value C (f + 1) s [.r o, .d (.list (nt S))]) fun d s' => ∃ M', Mok n M' ∧ d = .d (.int (g b (adjN nx) S : Nat)) ∧ s' = s.set kk (Mc b nx M') by
      obtain ⟨_, _, h, M', hM, rfl, rfl⟩ := h
      exact ⟨M', hM, h⟩
    have ih := fun S M s => value_ok hn X f S M s
    obtain ⟨L, hL, eL⟩ := pieces_ok (by omega) X G.v.rv G.wf a
    unfold m_Kayles_value b_Kayles_value
    rw [R_fn]
    refine ⟨rfl, ?_⟩
    simp only [List.map_cons, List.map_nil, List.cons_append, List.nil_append, List.length_cons, List.length_nil, Nat.reduceSub, Nat.reduceAdd, List.replicate_succ, List.replicate_zero]
    have hSl := a.len
    simp only [N.thn_nx, N.thn_rt, Rs_seq, Rs_set, Rs_ret, Rs_expr, Rs_nil, Rs_if, Rs_asg, Rs_aug, R_call, R_cons, R_nil, R_Var, R_C, R_bin, R_cmp, R_tcmp, R_tOr, R_tAnd, R_tNot, R_tVal, R_tTrue, R_ite, R_eAnd, R_eOr, R_eNot, R_neg, R_tup, R_isi, R_some, Rc_some, N.v_eq, N.v_ne, N.v_lt, N.v_le, N.v_gt, N.v_ge, N.v_add, N.v_sub, N.v_iadd, N.v_xor, N.v_int, N.tru_b, N.pd_d, N.data_nil, N.data_cons, N.len_t, N.v_tupT, N.g_name, N.isNone_n, N.isNone_t, N.isNone_i, N.v_isN, N.v_isNn, N.v_eqB, N.v_neB, List.set_cons_succ, List.set_cons_zero, List.getElem?_cons_succ, List.getElem?_cons_zero, Bool.not_true, Bool.not_false, Bool.false_eq_true, Bool.true_eq_false, eq_self, true_implies, false_implies, true_and, and_true, decide_true, decide_false, Int.zero_add, N.R_sl, N.R_it, R_oNone, R_oSome, wipeN, N.R_lst, N.R_mkF, N.R_mkT, N.R_meth, N.v_addT, Ri_rng1, Ri_rng2, Ri_seq]
    refine Rs_for L (fun P => .d (enP P)) (fun k e s' => ∃ M', Mok n M' ∧ e = [some (.r o), some (.d (.list (nt S))), some (.d (.int (xr ((L.take k).map (g b (adjN nx))) : Nat))), none, none, none] ∧ s' = s.set kk (Mc b nx M')) ?_ (fun k P e s' hk hi => ?_) (fun e s' hi => ?_)
    · have e1 := G.v.nexts (e := [some (.r o), some (.d (.list (nt S))), some (.d (.int 0)), none, none, none]) (i := 0) rfl
      simp only [Rs_nil, R_call, R_cons, R_nil, R_Var, R_C, R_bin, R_cmp, R_tcmp, R_tOr, R_tAnd, R_tNot, R_tVal, R_tTrue, R_ite, R_eAnd, R_eOr, R_eNot, R_neg, R_tup, R_isi, R_some, Rc_some, N.v_eq, N.v_ne, N.v_lt, N.v_le, N.v_gt, N.v_ge, N.v_add, N.v_sub, N.v_iadd, N.v_xor, N.v_int, N.tru_b, N.pd_d, N.data_nil, N.data_cons, N.len_t, N.v_tupT, N.g_name, N.isNone_n, N.isNone_t, N.isNone_i, N.v_isN, N.v_isNn, N.v_eqB, N.v_neB, List.set_cons_succ, List.set_cons_zero, List.getElem?_cons_succ, List.getElem?_cons_zero, Bool.not_true, Bool.not_false, Bool.false_eq_true, Bool.true_eq_false, eq_self, true_implies, false_implies, true_and, and_true, decide_true, decide_false, Int.zero_add, N.R_sl, N.R_it, R_oNone, R_oSome, wipeN, N.R_lst, N.R_mkF, N.R_mkT, N.R_meth, N.v_addT, Ri_rng1, Ri_rng2, Ri_seq, e1, eL]
      exact ⟨by rw [List.map_map]; rfl, M, G.ok, rfl, G.self.symm⟩
    · obtain ⟨M1, hM1, rfl, rfl⟩ := hi
      obtain ⟨hk1, hk2⟩ := List.getElem?_eq_some_iff.mp hk
      have hP : P ∈ L := hk2 ▸ List.getElem_mem hk1
      have aP := hL.as P hP
      have lP : P.length ≤ S.length := N.nodup_le aP.nd (hL.sub P hP)
      have G1 := G.set hM1
      generalize hs1 : s.set kk (Mc b nx M1) = s1 at *
      have x1 : xr ((L.take (k + 1)).map (g b (adjN nx))) = xr ((L.take k).map (g b (adjN nx))) ^^^ g b (adjN nx) P := by
        rw [List.take_succ_eq_append_getElem hk1, hk2, List.map_append, xr_app]
        congr 1
        exact Nat.xor_zero _
      rw [g_name, Rc_some]
      simp only [List.set_cons_succ, List.set_cons_zero]
      simp only [Rs_seq, N.thn_nx, Rs_set, R_call, R_cons, R_nil, R_Var, List.getElem?_cons_succ, List.getElem?_cons_zero, enP, v_tupL, R_some, List.set_cons_succ, List.set_cons_zero]
      -- the rest of the turn, once the key is known
      have fin : ∀ M2, Mok n M2 → P ∈ M2 → ∀ s2, s2 = s.set kk (Mc b nx M2) → Rs (sAug 2 oXor (eIt (eAttr C "known" (eVar 0)) (eVar 4)) [some (.r o), some (.d (.list (nt S))), some (.d (.int (xr ((L.take k).map (g b (adjN nx))) : Nat))), some (.d (.list (nt P))), some (.d (.tuple (nt P))), none] s2) (N.thn sNil (aft (fun e s' => ∃ M', Mok n M' ∧ e = [some (.r o), some (.d (.list (nt S))), some (.d (.int (xr ((L.take (k + 1)).map (g b (adjN nx))) : Nat))), none, none, none] ∧ s' = s.set kk (Mc b nx M')) (N.thn (sSeq (sRet (eVar 2)) sNil) fun fl x s' => match fl with
          | .rt d => R (N.ret false s d s') fun d s' => ∃ M', Mok n M' ∧ d = .d (.int (g b (adjN nx) S : Nat)) ∧ s' = s.set kk (Mc b nx M')
          | .nx => R (N.ret false s (.d .none) s') fun d s' => ∃ M', Mok n M' ∧ d = .d (.int (g b (adjN nx) S : Nat)) ∧ s' = s.set kk (Mc b nx M')
          | _ => False) [3, 4] s1)) := fun M2 hM2 hP2 s2 e2 => by
        have G2 := G.set hM2
        rw [← e2] at G2
        have ek : eAttr C "known" (eVar 0) [some (.r o), some (.d (.list (nt S))), some (.d (.int (xr ((L.take k).map (g b (adjN nx))) : Nat))), some (.d (.list (nt P))), some (.d (.tuple (nt P))), none] s2 = some (.r kk, s2) := G2.v.known rfl
        have gt : itF s2 (.r kk) (.d (.tuple (nt P))) = some (.d (.int (g b (adjN nx) P : Nat))) := itF_k G2.k (key_of P) (get_DG (kf := tup) (vf := vf b nx) (fun _ _ => tup_inj) hP2)
        simp only [N.thn_nx, N.thn_rt, Rs_seq, Rs_set, Rs_ret, Rs_expr, Rs_nil, Rs_if, Rs_asg, Rs_aug, R_call, R_cons, R_nil, R_Var, R_C, R_bin, R_cmp, R_tcmp, R_tOr, R_tAnd, R_tNot, R_tVal, R_tTrue, R_ite, R_eAnd, R_eOr, R_eNot, R_neg, R_tup, R_isi, R_some, Rc_some, N.v_eq, N.v_ne, N.v_lt, N.v_le, N.v_gt, N.v_ge, N.v_add, N.v_sub, N.v_iadd, N.v_xor, N.v_int, N.tru_b, N.pd_d, N.data_nil, N.data_cons, N.len_t, N.v_tupT, N.g_name, N.isNone_n, N.isNone_t, N.isNone_i, N.v_isN, N.v_isNn, N.v_eqB, N.v_neB, List.set_cons_succ, List.set_cons_zero, List.getElem?_cons_succ, List.getElem?_cons_zero, Bool.not_true, Bool.not_false, Bool.false_eq_true, Bool.true_eq_false, eq_self, true_implies, false_implies, true_and, and_true, decide_true, decide_false, Int.zero_add, N.R_sl, N.R_it, R_oNone, R_oSome, wipeN, N.R_lst, N.R_mkF, N.R_mkT, N.R_meth, N.v_addT, Ri_rng1, Ri_rng2, Ri_seq, ek, gt, bitXor_nat]
        rw [aft_nx, trimE_len (by rw [e2, ← hs1]; simp), ← x1]
        exact ⟨M2, hM2, rfl, e2⟩
      have ek1 : ∀ s2 M2, GM C o m kk n b nx M2 s2 → eAttr C "known" (eVar 0) [some (.r o), some (.d (.list (nt S))), some (.d (.int (xr ((L.take k).map (g b (adjN nx))) : Nat))), some (.d (.list (nt P))), some (.d (.tuple (nt P))), none] s2 = some (.r kk, s2) := fun s2 M2 h => h.v.known rfl
      have inD : cIn true s1 (.d (.tuple (nt P))) (.r kk) = some (!decide (P ∈ M1)) := by
        rw [v_inD G1.k (key_of P), if_pos rfl]
        have h : dHas (DG tup (vf b nx) M1) (.tuple (nt P)) = _ := has_DG (kf := tup) (vf := vf b nx) (fun _ _ => tup_inj) M1 P
        rw [h]
        congr 2
        exact decide_eq_decide.mpr Iff.rfl
      rw [Rs_if]
      simp only [R_tcmp, R_Var, List.getElem?_cons_succ, List.getElem?_cons_zero, ek1 s1 M1 G1, R_some, inD, Rc_some]
      refine ⟨fun h => ?_, fun h => ?_⟩
      · rw [Rs_seq, Rs_pu]
        simp only [R_call, R_cons, R_nil]
        have eb : eMethC C "behind" (m_Kayles_behind C) (eVar 0) (aCons (eVar 3) aNil) [some (.r o), some (.d (.list (nt S))), some (.d (.int (xr ((L.take k).map (g b (adjN nx))) : Nat))), some (.d (.list (nt P))), some (.d (.tuple (nt P))), none] s1 = some (.d (.list ((beh b nx P).map enP)), s1) := meth_of G1 rfl rfl (one_of rfl) (behind_ok (by omega) X G1.v G1.wf aP)
        have bl := Ky.beh_len (b := b) (P := P) X
        have bl2 : (beh b nx P).length ≤ 144 := Nat.le_trans bl (Nat.mul_le_mul (m₂ := 12) (n₂ := 12) (by omega) (by omega))
        refine R_lcI (beh b nx P) (fun T => .d (enP T)) s1.length (fun i acc s' => acc = nt (((beh b nx P).take i).map (g b (adjN nx))) ∧ ∃ M2, Mok n M2 ∧ s' = s.set kk (Mc b nx M2)) ?_ (fun i acc s' hi => ?_) (fun i T acc s' hk hi => ?_) (by unfold lim; omega) (fun acc s' hi => ?_)
        · simp only [Ri_seq, eb, R_some, Ri_some]
          refine ⟨by rw [List.map_map]; rfl, trivial, rfl, M1, hM1, hs1.symm⟩
        · obtain ⟨_, M2, hM2, rfl⟩ := hi
          exact ⟨by rw [← hs1]; simp, wf_set G.wf⟩
        · obtain ⟨rfl, M2, hM2, rfl⟩ := hi
          obtain ⟨hi1, hi2⟩ := List.getElem?_eq_some_iff.mp hk
          have hT : T ∈ beh b nx P := hi2 ▸ List.getElem_mem hi1
          have lT := Ky.opts_lt (Ky.mem_beh.mp hT)
          have aT := Ky.beh_as aP hT
          have G2 := (G.set hM2).app (nt (((beh b nx P).take i).map (g b (adjN nx))))
          obtain ⟨M3, hM3, e3⟩ := ih T M2 _ (by omega) aT G2
          rw [g_name, Rc_some]
          simp only [R_tTrue, wipeN, List.set_cons_succ, List.set_cons_zero]
          refine ⟨fun h => (by cases h), fun _ => ?_⟩
          rw [meth_of G2 rfl rfl (one_of rfl) e3, R_some]
          refine ⟨_, s.set kk (Mc b nx M3), rfl, ?_, ?_, M3, hM3, rfl⟩
          · rw [List.set_append_left _ _ (by rw [List.length_set]; exact G.lt), List.set_set]
          · rw [List.take_succ_eq_append_getElem hi1, hi2]
            simp [nt]
        · obtain ⟨rfl, M2, hM2, rfl⟩ := hi
          rw [List.take_length]
          have G2 := G.set hM2
          refine R_missL (M := 2 ^ 62) (by rw [List.length_map]; unfold lim; omega) (fun x hx => ?_) (by decide) (fun q hq => ?_)
          · obtain ⟨T, hT, rfl⟩ := List.mem_map.mp hx
            have lT := Ky.opts_lt (Ky.mem_beh.mp hT)
            have h1 := Ky.g_le X b T
            have h2 : T.length * T.length ≤ 12 * 12 := Nat.mul_le_mul (by omega) (by omega)
            omega
          · have hq : q = g b (adjN nx) P := Mex.uniq hq (Ky.beh_mex b nx P)
            subst hq
            simp only [ek1 _ M2 G2, R_some, R_Var, List.getElem?_cons_succ, List.getElem?_cons_zero]
            rw [putF_k G2.k (key_of P) (by unfold DG; rw [List.length_map]; exact hM2.len hn), Rc_some, N.thn_nx, Rs_nil, N.thn_nx]
            obtain ⟨M3, h1, h2, h3⟩ := hM2.put' (b := b) (nx := nx) aP
            rw [Rs_seq]
            refine fin M3 h1 h2 _ ?_
            rw [List.set_set]
            congr 1
            exact congrArg Cell.dic h3
      · rw [Rs_nil, N.thn_nx]
        have : P ∈ M1 := by simpa using h
        rw [Rs_seq]
        exact fin M1 hM1 this s1 hs1.symm
    · obtain ⟨M1, hM1, rfl, rfl⟩ := hi
      rw [List.take_length, hL.xr]
      simp only [N.thn_nx, N.thn_rt, Rs_seq, Rs_set, Rs_ret, Rs_expr, Rs_nil, Rs_if, Rs_asg, Rs_aug, R_call, R_cons, R_nil, R_Var, R_C, R_bin, R_cmp, R_tcmp, R_tOr, R_tAnd, R_tNot, R_tVal, R_tTrue, R_ite, R_eAnd, R_eOr, R_eNot, R_neg, R_tup, R_isi, R_some, Rc_some, N.v_eq, N.v_ne, N.v_lt, N.v_le, N.v_gt, N.v_ge, N.v_add, N.v_sub, N.v_iadd, N.v_xor, N.v_int, N.tru_b, N.pd_d, N.data_nil, N.data_cons, N.len_t, N.v_tupT, N.g_name, N.isNone_n, N.isNone_t, N.isNone_i, N.v_isN, N.v_isNn, N.v_eqB, N.v_neB, List.set_cons_succ, List.set_cons_zero, List.getElem?_cons_succ, List.getElem?_cons_zero, Bool.not_true, Bool.not_false, Bool.false_eq_true, Bool.true_eq_false, eq_self, true_implies, false_implies, true_and, and_true, decide_true, decide_false, Int.zero_add, N.R_sl, N.R_it, R_oNone, R_oSome, wipeN, N.R_lst, N.R_mkF, N.R_mkT, N.R_meth, N.v_addT, Ri_rng1, Ri_rng2, Ri_seq]
      unfold N.ret
      simp only []
      rw [trim_len (by simp)]
      exact R_some.mpr ⟨M1, hM1, rfl, rfl⟩
end T78

namespace T78
open PySem L2 PyProof.Rows N
open Ky (Adj adjN Nx As g near behV behE behAt beh)
variable {C : Addr} {n : Nat} {b : Bool} {s : Sto} {es : List (Nat × Nat)}
theorem rgI_nt' (a b : Nat) : rgI (a : Nat) (b : Nat) = nt ((List.range (b - a)).map fun k => a + k) := by
  unfold rgI nt
  rw [show ((b : Int) - (a : Nat)).toNat = b - a by omega, List.map_map]
  refine List.map_congr_left fun k _ => ?_
  simp
theorem R_lstR {ma : ME} {e : Lo} {s : Sto} {i : Nat} {Q : D → Sto → Prop} (h : R (ma e s) fun d s1 => d = .d (.int (i : Nat)) ∧ s1 = s) (hi : i ≤ 10000) (q : Q (.d (.list (nt (List.range i)))) s) : R (eLstR false ma e s) Q := by
  obtain ⟨_, _, h1, rfl, rfl⟩ := h
  unfold eLstR
  simp only [h1]
  have e2 : rgI 0 (i : Nat) = nt (List.range i) := by
    have := rgI_nt' 0 i
    simpa using this
  rw [if_pos ⟨by omega, by omega⟩, R_mkF, data_map, Rc_some, e2]
  exact q
def mid (C : Addr) (s : Sto) (fs : List (Str × D)) (rows : List (List Nat)) : Sto := s ++ (.ins C fs :: cI (s.length + 1) rows.length :: rows.map cR)
def fsN (b : Bool) (m kk : Nat) : List (Str × D) := [("nexts", .r m), ("by_edges", .d (.bool b)), ("known", .r kk)]
def gmN (C : Addr) (b : Bool) (s : Sto) (rows : List (List Nat)) : Sto := mid C s (fsN b (s.length + 1) (s.length + 2 + rows.length)) rows ++ [.dic []]
theorem mid_len {fs : List (Str × D)} {rows : List (List Nat)} : (mid C s fs rows).length = s.length + 2 + rows.length := by
  simp [mid]
  omega
theorem mid_get {fs : List (Str × D)} {rows : List (List Nat)} : (mid C s fs rows)[s.length]? = some (.ins C fs) := by
  unfold mid
  rw [List.getElem?_append_right (Nat.le_refl _), Nat.sub_self]
  rfl
theorem mid_set {fs fs' : List (Str × D)} {rows : List (List Nat)} : (mid C s fs rows).set s.length (.ins C fs') = mid C s fs' rows := by
  unfold mid
  rw [List.set_append_right _ _ (Nat.le_refl _), Nat.sub_self]
  rfl
theorem nxs_len (n : Nat) (es : List (Nat × Nat)) : (nxs n es).length = n := by simp [nxs]
theorem putA_len (f : Str) (d : D) : ∀ fs : List (Str × D), (putA f d fs).length ≤ fs.length + 1
  | [] => Nat.le_refl _
  | (g, x) :: r => by
    unfold putA
    split
    · simp
    · simp only [List.length_cons]
      exact Nat.succ_le_succ (putA_len f d r)
theorem attr_set {o : Nat} {f : Str} {mv : ME} {e : Lo} {s0 s1 : Sto} {d : D} {fs : List (Str × D)} (hv : mv e s0 = some (d, s1)) (he : e[0]? = some (some (.r o))) (h : s1[o]? = some (.ins C fs)) (hl : fs.length < 1000) : sAttr C f (eVar 0) mv e s0 = some (.nx, e, s1.set o (.ins C (putA f d fs))) := by
  have e1 : eVar 0 e s1 = some (.r o, s1) := by
    obtain ⟨_, _, h, rfl, rfl⟩ : R (eVar 0 e s1) fun d s => d = .r o ∧ s = s1 := by
      simp only [R_Var, he]
      exact ⟨trivial, trivial⟩
    exact h
  unfold sAttr
  rw [hv]
  simp only [e1, insAt_of h, hl, if_true]
theorem call_of {F : FA} {ms : MA} {e : Lo} {s s1 : Sto} {ds : List D} {r : D × Sto} (h : ms e s = some (ds, s1)) (hF : F s1 ds = some r) : eCall F ms e s = some r := by
  unfold eCall
  rw [h]
  exact hF
theorem var_of {i : Nat} {e : Lo} {d : D} (he : e[i]? = some (some d)) : eVar i e s = some (d, s) := by
  obtain ⟨_, _, h, rfl, rfl⟩ : R (eVar i e s) fun x s1 => x = d ∧ s1 = s := by
    simp only [R_Var, he]
    exact ⟨trivial, trivial⟩
  exact h
theorem init_ok (G : Gr n es) (h0 : 0 < n) (h1 : n ≤ 100) (h2 : es.length ≤ 10000) : m_Kayles___init__ C (s ++ [.ins C []]) [.r s.length, .d (gra n es), .d (.bool b)] = some (.d .none, gmN C b s (nxs n es)) := by
  have hl : (s ++ [Cell.ins C []]).length = s.length + 1 := by simp
  have en := nexts_ok G h0 h1 h2 (s ++ [.ins C []])
  rw [hl] at en
  have hN := nxs_len n es
  have e0 : stN (s ++ [Cell.ins C []]) (nxs n es) = mid C s [] (nxs n es) := by
    unfold stN mid
    rw [hl, List.append_assoc]
    rfl
  rw [e0] at en
  apply R.eq
  unfold m_Kayles___init__ b_Kayles___init__
  rw [R_fn]
  refine ⟨rfl, ?_⟩
  simp only [List.map_cons, List.map_nil, List.cons_append, List.nil_append, List.length_cons, List.length_nil, Nat.reduceSub, Nat.reduceAdd, List.replicate_succ, List.replicate_zero]
  rw [Rs_seq, attr_set (o := s.length) (s1 := mid C s [] (nxs n es)) (call_of (one_of rfl) en) rfl mid_get (by simp), mid_set, Rs_some, N.thn_nx]
  rw [Rs_seq, attr_set (o := s.length) (var_of rfl) rfl mid_get (by simp [putA]), mid_set, Rs_some, N.thn_nx]
  rw [Rs_seq, attr_set (o := s.length) (mv := eDic) (f := "known") rfl rfl (get_app mid_get) (Nat.lt_of_le_of_lt (putA_len _ _ _) (Nat.lt_of_le_of_lt (Nat.succ_le_succ (putA_len _ _ _)) (by decide))), Rs_some, N.thn_nx, Rs_nil]
  simp only []
  have ef : (mid C s (putA "by_edges" (.d (.bool b)) (putA "nexts" (.r (s.length + 1)) [])) (nxs n es) ++ [Cell.dic []]).set s.length (.ins C (putA "known" (.r (mid C s (putA "by_edges" (.d (.bool b)) (putA "nexts" (.r (s.length + 1)) [])) (nxs n es)).length) (putA "by_edges" (.d (.bool b)) (putA "nexts" (.r (s.length + 1)) [])))) = gmN C b s (nxs n es) := by
    unfold gmN
    rw [List.set_append_left _ _ (by rw [mid_len]; omega), mid_set, mid_len]
    rfl
  rw [ef]
  unfold N.ret
  simp only []
  have ns : ¬ Safe (s ++ [.ins C []]) (gmN C b s (nxs n es)) := fun hs => by
    have hg : (gmN C b s (nxs n es))[s.length]? = some (.ins C (fsN b (s.length + 1) (s.length + 2 + (nxs n es).length))) := get_app mid_get
    rcases hs.ce s.length _ (by rw [hl]; omega) hg with h | h
    · rw [List.getElem?_append_right (Nat.le_refl _), Nat.sub_self] at h
      simp [fsN] at h
    · have := h "nexts" (s.length + 1) (by simp [fsN])
      rw [hl] at this
      omega
  unfold trim
  rw [if_neg ns]
  exact R_some.mpr ⟨rfl, rfl⟩
theorem gm_rows (rows : List (List Nat)) : GV C s.length (s.length + 1) (s.length + 2 + rows.length) rows.length b rows (gmN C b s rows) := by
  refine ⟨get_app mid_get, get_app ?_, fun i hi => get_app ?_⟩
  · unfold mid
    rw [List.getElem?_append_right (by omega), show s.length + 1 - s.length = 0 + 1 by omega, List.getElem?_cons_succ, List.getElem?_cons_zero]
  · unfold mid
    rw [List.getElem?_append_right (by omega), show s.length + 1 + 1 + i - s.length = i + 1 + 1 by omega, List.getElem?_cons_succ, List.getElem?_cons_succ, List.getElem?_map, List.getD_eq_getElem?_getD, List.getElem?_eq_getElem hi, Option.map_some, Option.getD_some]
theorem gm_wf (W : Wf s) (rows : List (List Nat)) : Wf (gmN C b s rows) := fun c hc => by
  have hl : (gmN C b s rows).length = s.length + 2 + rows.length + 1 := by
    unfold gmN
    rw [List.length_append, mid_len]
    simp
  rw [hl]
  unfold gmN at hc
  rcases List.mem_append.mp hc with hc | hc
  · unfold mid at hc
    rcases List.mem_append.mp hc with hc | hc
    · exact below_mono (W c hc) (by omega)
    · rcases List.mem_cons.mp hc with rfl | hc
      · intro k j hj
        simp [fsN] at hj
        omega
      · rcases List.mem_cons.mp hc with rfl | hc
        · intro j hj
          obtain ⟨x, hx, e⟩ := List.mem_map.mp hj
          have := List.mem_range.mp hx
          cases e
          omega
        · obtain ⟨r, _, rfl⟩ := List.mem_map.mp hc
          intro j hj
          obtain ⟨x, _, e⟩ := List.mem_map.mp hj
          cases e
  · rw [List.mem_singleton.mp hc]
    intro k j hj
    cases hj
theorem eNew_of {I : FA} {ms : MA} {e : Lo} {ds : List D} {s s1 s2 : Sto} (he : ms e s = some (ds, s1)) (hi : I (s1 ++ [.ins C []]) (.r s1.length :: ds) = some (.d .none, s2)) : eNew C I ms e s = some (.r s1.length, s2) := by
  unfold eNew
  rw [he]
  dsimp only
  rw [hi]
theorem new_ok (G : Gr n es) (h0 : 0 < n) (h1 : n ≤ 100) (h2 : es.length ≤ 10000) {ms : MA} {e : Lo} (he : ms e s = some ([.d (gra n es), .d (.bool b)], s)) : eNew C (m_Kayles___init__ C) ms e s = some (.r s.length, gmN C b s (nxs n es)) := by
  have hi := init_ok (C := C) (b := b) (s := s) G h0 h1 h2
  exact eNew_of he hi
theorem game_new (W : Wf s) (n : Nat) (es : List (Nat × Nat)) : GM C s.length (s.length + 1) (s.length + 2 + n) n b (nxs n es) [] (gmN C b s (nxs n es)) := by
  have hN := nxs_len n es
  have v := gm_rows (C := C) (b := b) (s := s) (nxs n es)
  rw [hN] at v
  refine ⟨v, gm_wf W _, Mok.nil, ?_⟩
  unfold gmN
  have hl : (mid C s (fsN b (s.length + 1) (s.length + 2 + (nxs n es).length)) (nxs n es)).length = s.length + 2 + n := by rw [mid_len, hN]
  generalize mid C s (fsN b (s.length + 1) (s.length + 2 + (nxs n es).length)) (nxs n es) = u at hl
  rw [← hl, List.getElem?_append_right (Nat.le_refl _), Nat.sub_self]
  rfl
end T78

namespace T78
open PySem L2 PyProof.Rows N
open Ky (Adj adjN Nx As g near behV behE behAt beh)
variable {C : Addr} {n : Nat} {b : Bool} {s : Sto} {es : List (Nat × Nat)}
theorem Gr.len (G : Gr n es) : es.length ≤ n * n := by
  have h := N.nodup_le G.nd (m := (List.range n).flatMap fun i => (List.range n).map fun j => (i, j)) fun e he => by
    have h1 := G.lt e he
    have h2 := G.le e he
    rw [List.mem_flatMap]
    exact ⟨e.1, List.mem_range.mpr (by omega), List.mem_map.mpr ⟨e.2, List.mem_range.mpr h2, rfl⟩⟩
  have := Ky.flat_len (f := fun i => (List.range n).map fun j => (i, j)) (k := n) (l := List.range n) fun i _ => by simp
  rw [List.length_range] at this
  omega
theorem Gr.len2 (G : Gr n es) (hn : n ≤ 12) : es.length ≤ 10000 := Nat.le_trans G.len (Nat.le_trans (Nat.mul_le_mul hn hn) (by decide))
theorem eMeth_of {x : Str} {F : FA} {ma : ME} {ms : MA} {e : Lo} {ds : List D} {j : Nat} {fs : List (Str × D)} {s s1 s2 : Sto} {r : D × Sto} (ha : ma e s = some (.r j, s1)) (hj : s1[j]? = some (.ins C fs)) (hx : fs.lookup x = none) (hm : ms e s1 = some (ds, s2)) (hF : F s2 (.r j :: ds) = some r) : eMethC C x F ma ms e s = some r := by
  unfold eMethC
  rw [ha]
  dsimp only
  rw [insAt_of hj]
  dsimp only
  rw [hx]
  dsimp only
  rw [hm]
  exact hF
theorem gmN_app (rows : List (List Nat)) : ∃ t, gmN C b s rows = s ++ t ∧ t.length = rows.length + 3 := ⟨_, List.append_assoc _ _ _, by simp⟩
theorem it_fst {s : Sto} : itF s (.d (gra n es)) (.d (.int 0)) = some (.d (.int (n : Nat))) := itF_t (N.atI_nat (i := 0) rfl)
theorem it_snd {s : Sto} : itF s (.d (gra n es)) (.d (.int 1)) = some (.d (.tuple (es.map pr))) := itF_t (N.atI_nat (i := 1) rfl)
theorem two_of {e : Lo} {x : PyData} {d : D} (he : e[0]? = some (some d)) : aCons (eVar 0) (aCons (eC x) aNil) e s = some ([d, .d x], s) := by
  obtain ⟨_, _, h, rfl, rfl⟩ : R (aCons (eVar 0) (aCons (eC x) aNil) e s) fun ds s1 => ds = [d, .d x] ∧ s1 = s := by
    simp only [Rs_nil, R_call, R_cons, R_nil, R_Var, R_C, R_bin, R_cmp, R_tcmp, R_tOr, R_tAnd, R_tNot, R_tVal, R_tTrue, R_ite, R_eAnd, R_eOr, R_eNot, R_neg, R_tup, R_isi, R_some, Rc_some, N.v_eq, N.v_ne, N.v_lt, N.v_le, N.v_gt, N.v_ge, N.v_add, N.v_sub, N.v_iadd, N.v_xor, N.v_int, N.tru_b, N.pd_d, N.data_nil, N.data_cons, N.len_t, N.v_tupT, N.g_name, N.isNone_n, N.isNone_t, N.isNone_i, N.v_isN, N.v_isNn, N.v_eqB, N.v_neB, List.set_cons_succ, List.set_cons_zero, List.getElem?_cons_succ, List.getElem?_cons_zero, Bool.not_true, Bool.not_false, Bool.false_eq_true, Bool.true_eq_false, eq_self, true_implies, false_implies, true_and, and_true, decide_true, decide_false, Int.zero_add, N.R_sl, N.R_it, R_oNone, R_oSome, wipeN, N.R_lst, N.R_mkF, N.R_mkT, N.R_meth, N.v_addT, Ri_rng1, Ri_rng2, Ri_seq, he]
  exact h
theorem kv_ok (G : Gr n es) (h0 : 0 < n) (hn : n ≤ 12) (W : Wf s) : fnR 1 1 false (sSeq (sRet (eMethC C "value" (m_Kayles_value C 14) (eNew C (m_Kayles___init__ C) (aCons (eVar 0) (aCons (eC (.bool b)) aNil))) (aCons (eLstR false (eIt (eVar 0) (eC (.int 0)))) aNil))) sNil) s [.d (gra n es)] = some (.d (.int (g b (adjE es) (List.range n) : Nat)), s) := by
  apply R.eq
  rw [R_fn]
  refine ⟨rfl, ?_⟩
  simp only [List.map_cons, List.map_nil, List.cons_append, List.nil_append, List.length_cons, List.length_nil, Nat.reduceSub, Nat.reduceAdd, List.replicate_succ, List.replicate_zero]
  rw [Rs_seq, Rs_ret]
  have en := new_ok (C := C) (b := b) (s := s) G h0 (by omega) (G.len2 hn) (e := [some (.d (gra n es))]) (two_of rfl)
  have GG := game_new (C := C) (b := b) W n es
  obtain ⟨M', hM', ev⟩ := value_ok hn (nx_nxs G) 14 (List.range n) [] _ (by rw [List.length_range]; omega) (As.range n) GG
  have ea : aCons (eLstR false (eIt (eVar 0) (eC (.int 0)))) aNil [some (.d (gra n es))] (gmN C b s (nxs n es)) = some ([.d (.list (nt (List.range n)))], gmN C b s (nxs n es)) := by
    obtain ⟨_, _, h, rfl, rfl⟩ : R (aCons (eLstR false (eIt (eVar 0) (eC (.int 0)))) aNil [some (.d (gra n es))] (gmN C b s (nxs n es))) fun ds s1 => ds = [.d (.list (nt (List.range n)))] ∧ s1 = gmN C b s (nxs n es) := by
      rw [R_cons]
      refine R_lstR (i := n) ?_ (by omega) ?_
      · simp only [Rs_nil, R_call, R_cons, R_nil, R_Var, R_C, R_bin, R_cmp, R_tcmp, R_tOr, R_tAnd, R_tNot, R_tVal, R_tTrue, R_ite, R_eAnd, R_eOr, R_eNot, R_neg, R_tup, R_isi, R_some, Rc_some, N.v_eq, N.v_ne, N.v_lt, N.v_le, N.v_gt, N.v_ge, N.v_add, N.v_sub, N.v_iadd, N.v_xor, N.v_int, N.tru_b, N.pd_d, N.data_nil, N.data_cons, N.len_t, N.v_tupT, N.g_name, N.isNone_n, N.isNone_t, N.isNone_i, N.v_isN, N.v_isNn, N.v_eqB, N.v_neB, List.set_cons_succ, List.set_cons_zero, List.getElem?_cons_succ, List.getElem?_cons_zero, Bool.not_true, Bool.not_false, Bool.false_eq_true, Bool.true_eq_false, eq_self, true_implies, false_implies, true_and, and_true, decide_true, decide_false, Int.zero_add, N.R_sl, N.R_it, R_oNone, R_oSome, wipeN, N.R_lst, N.R_mkF, N.R_mkT, N.R_meth, N.v_addT, Ri_rng1, Ri_rng2, Ri_seq, it_fst]
      · simp only [Rs_nil, R_call, R_cons, R_nil, R_Var, R_C, R_bin, R_cmp, R_tcmp, R_tOr, R_tAnd, R_tNot, R_tVal, R_tTrue, R_ite, R_eAnd, R_eOr, R_eNot, R_neg, R_tup, R_isi, R_some, Rc_some, N.v_eq, N.v_ne, N.v_lt, N.v_le, N.v_gt, N.v_ge, N.v_add, N.v_sub, N.v_iadd, N.v_xor, N.v_int, N.tru_b, N.pd_d, N.data_nil, N.data_cons, N.len_t, N.v_tupT, N.g_name, N.isNone_n, N.isNone_t, N.isNone_i, N.v_isN, N.v_isNn, N.v_eqB, N.v_neB, List.set_cons_succ, List.set_cons_zero, List.getElem?_cons_succ, List.getElem?_cons_zero, Bool.not_true, Bool.not_false, Bool.false_eq_true, Bool.true_eq_false, eq_self, true_implies, false_implies, true_and, and_true, decide_true, decide_false, Int.zero_add, N.R_sl, N.R_it, R_oNone, R_oSome, wipeN, N.R_lst, N.R_mkF, N.R_mkT, N.R_meth, N.v_addT, Ri_rng1, Ri_rng2, Ri_seq]
    exact h
  rw [eMeth_of en GG.v.ins rfl ea ev, R_some, N.thn_rt]
  rw [adj_nxs G]
  obtain ⟨t, ht, htl⟩ := gmN_app (C := C) (b := b) (s := s) (nxs n es)
  rw [ht, List.set_append_right _ _ (by omega)]
  unfold N.ret
  simp only []
  rw [trim_wf rfl W]
  exact R_some.mpr ⟨rfl, rfl⟩
theorem kvalue_ok (G : Gr n es) (h0 : 0 < n) (hn : n ≤ 12) (W : Wf s) : m_kayles_value C s [.d (gra n es)] = some (.d (.int (g false (adjE es) (List.range n) : Nat)), s) := kv_ok G h0 hn W
theorem kedge_ok (G : Gr n es) (h0 : 0 < n) (hn : n ≤ 12) (W : Wf s) : m_edge_kayles_value C s [.d (gra n es)] = some (.d (.int (g true (adjE es) (List.range n) : Nat)), s) := kv_ok G h0 hn W
end T78

namespace T78
open PySem L2 PyProof.Rows N
open Ky (Adj adjN Nx As g near behV behE behAt beh)
variable {C : Addr} {n : Nat} {b : Bool} {s : Sto} {es : List (Nat × Nat)}
/-- what is left if a place is taken -/
def rstV (es : List (Nat × Nat)) (S : List Nat) (v : Nat) : List Nat := S.filter fun o => decide (o ≠ v) && !adjE es v o
def rstE (S : List Nat) (e : Nat × Nat) : List Nat := S.filter fun o => !decide (o ∈ [e.1, e.2])
def winV (es : List (Nat × Nat)) (S : List Nat) (v : Nat) : Bool := decide (g false (adjE es) (rstV es S v) = 0)
def winE (es : List (Nat × Nat)) (S : List Nat) (k : Nat) : Bool := decide (g true (adjE es) (rstE S (es.getD k (0, 0))) = 0)
theorem tup_R {l : List Nat} {j : Nat} (h : s[j]? = some (cR l)) : bTuple s [.r j] = some (.d (tup l), s) := by
  unfold bTuple asL
  simp only [h, cR, data_map]
  rfl
theorem cR_app {u : Sto} {l : List Nat} {x : Nat} : (u ++ [cR l]).set u.length (.lst ((nt l).map .d ++ [.d (.int (x : Nat))])) = u ++ [cR (l ++ [x])] := by
  rw [List.set_append_right _ _ (Nat.le_refl _), Nat.sub_self]
  unfold cR nt
  simp
theorem cR_get {u : Sto} {l : List Nat} : (u ++ [cR l])[u.length]? = some (.lst ((nt l).map .d)) := by
  rw [List.getElem?_append_right (Nat.le_refl _), Nat.sub_self]
  rfl
theorem eq0 (k : Nat) : decide ((k : Int) = 0) = decide (k = 0) := decide_eq_decide.mpr (by omega)
theorem filter_snoc {p : Nat → Bool} {l : List Nat} {x : Nat} : (l ++ [x]).filter p = if p x = true then l.filter p ++ [x] else l.filter p := by
  rw [List.filter_append]
  split
  · rename_i h
    rw [List.filter_cons, if_pos h]
    rfl
  · rename_i h
    rw [List.filter_cons, if_neg h]
    exact List.append_nil _
theorem kmoves_ok (G : Gr n es) (h0 : 0 < n) (hn : n ≤ 12) (W : Wf s) : m_kayles_moves C s [.d (gra n es)] = some (.d (tup ((List.range n).filter (winV es (List.range n)))), s) := by
  apply R.eq
  unfold m_kayles_moves b_kayles_moves
  rw [R_fn]
  refine ⟨rfl, ?_⟩
  simp only [List.map_cons, List.map_nil, List.cons_append, List.nil_append, List.length_cons, List.length_nil, Nat.reduceSub, Nat.reduceAdd, List.replicate_succ, List.replicate_zero]
  have en := new_ok (C := C) (b := false) (s := s) G h0 (by omega) (G.len2 hn) (e := [some (.d (gra n es)), none, none, none, none, none]) (two_of rfl)
  have GG := game_new (C := C) (b := false) W n es
  have X := nx_nxs G
  obtain ⟨t, ht, htl⟩ := gmN_app (C := C) (b := false) (s := s) (nxs n es)
  rw [nxs_len] at htl
  generalize hu : gmN C false s (nxs n es) = u at *
  have hul : u.length = s.length + n + 3 := by rw [ht, List.length_append, htl]; omega
  rw [Rs_seq, Rs_par]
  simp only [R_cons, R_nil, en, R_some, R_lst, R_mkT, List.length_nil]
  refine ⟨by unfold lim; omega, by simp, ?_⟩
  simp only [List.zip_cons_cons, List.zip_nil_right, List.foldl_cons, List.foldl_nil, List.set_cons_succ, List.set_cons_zero]
  rw [N.thn_nx, Rs_seq]
  refine Rs_for (List.range n) enI (fun k e s' => ∃ M', Mok n M' ∧ e = [some (.d (gra n es)), some (.r s.length), some (.r u.length), none, none, none] ∧ s' = u.set (s.length + 2 + n) (Mc false (nxs n es) M') ++ [cR (((List.range n).take k).filter (winV es (List.range n)))]) ?_ (fun k v e s' hk hi => ?_) (fun e s' hi => ?_)
  · simp only [Rs_nil, R_call, R_cons, R_nil, R_Var, R_C, R_bin, R_cmp, R_tcmp, R_tOr, R_tAnd, R_tNot, R_tVal, R_tTrue, R_ite, R_eAnd, R_eOr, R_eNot, R_neg, R_tup, R_isi, R_some, Rc_some, N.v_eq, N.v_ne, N.v_lt, N.v_le, N.v_gt, N.v_ge, N.v_add, N.v_sub, N.v_iadd, N.v_xor, N.v_int, N.tru_b, N.pd_d, N.data_nil, N.data_cons, N.len_t, N.v_tupT, N.g_name, N.isNone_n, N.isNone_t, N.isNone_i, N.v_isN, N.v_isNn, N.v_eqB, N.v_neB, List.set_cons_succ, List.set_cons_zero, List.getElem?_cons_succ, List.getElem?_cons_zero, Bool.not_true, Bool.not_false, Bool.false_eq_true, Bool.true_eq_false, eq_self, true_implies, false_implies, true_and, and_true, decide_true, decide_false, Int.zero_add, N.R_sl, N.R_it, R_oNone, R_oSome, wipeN, N.R_lst, N.R_mkF, N.R_mkT, N.R_meth, N.v_addT, Ri_rng1, Ri_rng2, Ri_seq, it_fst]
    refine ⟨by omega, rng0' rfl, [], Mok.nil, ?_⟩
    rw [GG.self]
    rfl
  · obtain ⟨M1, hM1, rfl, rfl⟩ := hi
    obtain ⟨hk1, hk2⟩ := List.getElem?_eq_some_iff.mp hk
    have hv : v < n := by
      have := List.getElem_mem hk1
      rw [hk2] at this
      exact List.mem_range.mp this
    have G1 := GG.set hM1
    have hsl : (u.set (s.length + 2 + n) (Mc false (nxs n es) M1)).length = u.length := List.length_set
    generalize hu1 : u.set (s.length + 2 + n) (Mc false (nxs n es) M1) = u1 at *
    have hw : (List.range n).take (k + 1) = (List.range n).take k ++ [v] := by rw [List.take_succ_eq_append_getElem hk1, hk2]
    generalize hT : (List.range n).take k = T at *
    have lT : (T.filter (winV es (List.range n))).length ≤ n := by
      have := List.length_filter_le (winV es (List.range n)) T
      rw [← hT, List.length_take, List.length_range] at this
      rw [← hT]
      omega
    have G2 : GM C s.length (s.length + 1) (s.length + 2 + n) n false (nxs n es) M1 (u1 ++ [cR (T.filter (winV es (List.range n)))]) := G1.app (nt (T.filter (winV es (List.range n))))
    rw [g_name, Rc_some]
    simp only [List.set_cons_succ, List.set_cons_zero]
    rw [Rs_seq, Rs_set]
    have nl : ((nxs n es).getD v []).length ≤ n := by
      have := N.nodup_le (X.nd v) (m := List.range n) fun x hx => List.mem_range.mpr (X.lt v x hx)
      rwa [List.length_range] at this
    refine R_int_filter (l := List.range n) (p := fun o => decide (o ≠ v) && !adjE es v o) ?_ (by simp) (by rw [List.length_range]; unfold lim; omega) (fun x hx acc => ?_) ?_
    · simp only [Rs_nil, R_call, R_cons, R_nil, R_Var, R_C, R_bin, R_cmp, R_tcmp, R_tOr, R_tAnd, R_tNot, R_tVal, R_tTrue, R_ite, R_eAnd, R_eOr, R_eNot, R_neg, R_tup, R_isi, R_some, Rc_some, N.v_eq, N.v_ne, N.v_lt, N.v_le, N.v_gt, N.v_ge, N.v_add, N.v_sub, N.v_iadd, N.v_xor, N.v_int, N.tru_b, N.pd_d, N.data_nil, N.data_cons, N.len_t, N.v_tupT, N.g_name, N.isNone_n, N.isNone_t, N.isNone_i, N.v_isN, N.v_isNn, N.v_eqB, N.v_neB, List.set_cons_succ, List.set_cons_zero, List.getElem?_cons_succ, List.getElem?_cons_zero, Bool.not_true, Bool.not_false, Bool.false_eq_true, Bool.true_eq_false, eq_self, true_implies, false_implies, true_and, and_true, decide_true, decide_false, Int.zero_add, N.R_sl, N.R_it, R_oNone, R_oSome, wipeN, N.R_lst, N.R_mkF, N.R_mkT, N.R_meth, N.v_addT, Ri_rng1, Ri_rng2, Ri_seq, it_fst]
      exact ⟨by omega, rng0' rfl⟩
    · have e1 := (G2.v.app [.lst acc]).nexts (i := 1) (e := (wipeN [some (.d (gra n es)), some (.r s.length), some (.r u.length), some (enI v), none, none] [5]).set 5 (some (enI x))) rfl
      have e2 := (G2.v.app [.lst acc]).rv
      have e3 := itF_row e2.top hv
      have e4 := e2.row v hv
      have e5 : (!decide ((x : Int) = (v : Int))) = decide (x ≠ v) := by
        rw [Bool.eq_iff_iff]; simp; omega
      have e6 : decide (x ∈ (nxs n es).getD v []) = adjE es v x := by
        rw [← adj_nxs G]
        rfl
      simp only [wipeN, List.set_cons_succ, List.set_cons_zero] at e1 ⊢
      simp only [Rs_nil, R_call, R_cons, R_nil, R_Var, R_C, R_bin, R_cmp, R_tcmp, R_tOr, R_tAnd, R_tNot, R_tVal, R_tTrue, R_ite, R_eAnd, R_eOr, R_eNot, R_neg, R_tup, R_isi, R_some, Rc_some, N.v_eq, N.v_ne, N.v_lt, N.v_le, N.v_gt, N.v_ge, N.v_add, N.v_sub, N.v_iadd, N.v_xor, N.v_int, N.tru_b, N.pd_d, N.data_nil, N.data_cons, N.len_t, N.v_tupT, N.g_name, N.isNone_n, N.isNone_t, N.isNone_i, N.v_isN, N.v_isNn, N.v_eqB, N.v_neB, List.set_cons_succ, List.set_cons_zero, List.getElem?_cons_succ, List.getElem?_cons_zero, Bool.not_true, Bool.not_false, Bool.false_eq_true, Bool.true_eq_false, eq_self, true_implies, false_implies, true_and, and_true, decide_true, decide_false, Int.zero_add, N.R_sl, N.R_it, R_oNone, R_oSome, wipeN, N.R_lst, N.R_mkF, N.R_mkT, N.R_meth, N.v_addT, Ri_rng1, Ri_rng2, Ri_seq, e1, e3, v_inRn e4, e5, e6]
      rw [if_pos trivial]
      exact ⟨fun h => by rw [h]; rfl, fun h => by rw [h]; rfl⟩
    · simp only [List.set_cons_succ, List.set_cons_zero]
      have aS : As n (rstV es (List.range n) v) := (As.range n).fil _
      obtain ⟨M2, hM2, ev⟩ := value_ok hn X 14 (rstV es (List.range n) v) M1 _ (by have := aS.len; omega) aS G2
      have em := eMeth_of (C := C) (x := "value") (ma := eVar 1) (ms := aCons (eVar 4) aNil) (e := [some (.d (gra n es)), some (.r s.length), some (.r u.length), some (enI v), some (.d (.list (nt (rstV es (List.range n) v)))), none]) (var_of rfl) G2.v.ins rfl (one_of rfl) ev
      rw [List.set_append_left _ _ (by rw [hsl]; omega), ← hu1, List.set_set, adj_nxs G] at em
      have G3 := GG.set hM2
      have hs3 : (u.set (s.length + 2 + n) (Mc false (nxs n es) M2)).length = u.length := List.length_set
      generalize hu3 : u.set (s.length + 2 + n) (Mc false (nxs n es) M2) = u3 at *
      rw [hu1] at em
      have cg : (u3 ++ [cR (T.filter (winV es (List.range n)))])[u.length]? = some (.lst ((nt (T.filter (winV es (List.range n)))).map .d)) := by
        rw [← hs3]; exact cR_get
      have cs : (u3 ++ [cR (T.filter (winV es (List.range n)))]).set u.length (.lst ((nt (T.filter (winV es (List.range n)))).map .d ++ [enI v])) = u3 ++ [cR (T.filter (winV es (List.range n)) ++ [v])] := by
        rw [← hs3]; exact cR_app
      rw [N.thn_nx, Rs_seq, Rs_if, R_tcmp, show eMethC C "value" (m_Kayles_value C 14) (eVar 1) (aCons (eVar 4) aNil) [some (.d (gra n es)), some (.r s.length), some (.r u.length), some (enI v), some (.d (.list (nt ((List.range n).filter fun o => decide (o ≠ v) && !adjE es v o)))), none] (u1 ++ [cR (T.filter (winV es (List.range n)))]) = _ from em, R_some]
      simp only [R_C, N.v_eq, Rc_some, eq0]
      refine ⟨fun h => ?_, fun h => ?_⟩
      · simp only [N.thn_nx, N.thn_rt, Rs_seq, Rs_set, Rs_ret, Rs_expr, Rs_nil, Rs_if, Rs_asg, Rs_aug, R_call, R_cons, R_nil, R_Var, R_C, R_bin, R_cmp, R_tcmp, R_tOr, R_tAnd, R_tNot, R_tVal, R_tTrue, R_ite, R_eAnd, R_eOr, R_eNot, R_neg, R_tup, R_isi, R_some, Rc_some, N.v_eq, N.v_ne, N.v_lt, N.v_le, N.v_gt, N.v_ge, N.v_add, N.v_sub, N.v_iadd, N.v_xor, N.v_int, N.tru_b, N.pd_d, N.data_nil, N.data_cons, N.len_t, N.v_tupT, N.g_name, N.isNone_n, N.isNone_t, N.isNone_i, N.v_isN, N.v_isNn, N.v_eqB, N.v_neB, List.set_cons_succ, List.set_cons_zero, List.getElem?_cons_succ, List.getElem?_cons_zero, Bool.not_true, Bool.not_false, Bool.false_eq_true, Bool.true_eq_false, eq_self, true_implies, false_implies, true_and, and_true, decide_true, decide_false, Int.zero_add, N.R_sl, N.R_it, R_oNone, R_oSome, wipeN, N.R_lst, N.R_mkF, N.R_mkT, N.R_meth, N.v_addT, Ri_rng1, Ri_rng2, Ri_seq, cg, N.v_app, List.length_map, N.nt_len]
        refine ⟨by unfold lim; omega, ?_⟩
        rw [cs, aft_nx, trimE_len (by simp [hs3, hsl]), hw, filter_snoc, if_pos (show winV es (List.range n) v = true from h)]
        exact ⟨M2, hM2, rfl, by rw [hu3]⟩
      · simp only [N.thn_nx, N.thn_rt, Rs_seq, Rs_set, Rs_ret, Rs_expr, Rs_nil, Rs_if, Rs_asg, Rs_aug, R_call, R_cons, R_nil, R_Var, R_C, R_bin, R_cmp, R_tcmp, R_tOr, R_tAnd, R_tNot, R_tVal, R_tTrue, R_ite, R_eAnd, R_eOr, R_eNot, R_neg, R_tup, R_isi, R_some, Rc_some, N.v_eq, N.v_ne, N.v_lt, N.v_le, N.v_gt, N.v_ge, N.v_add, N.v_sub, N.v_iadd, N.v_xor, N.v_int, N.tru_b, N.pd_d, N.data_nil, N.data_cons, N.len_t, N.v_tupT, N.g_name, N.isNone_n, N.isNone_t, N.isNone_i, N.v_isN, N.v_isNn, N.v_eqB, N.v_neB, List.set_cons_succ, List.set_cons_zero, List.getElem?_cons_succ, List.getElem?_cons_zero, Bool.not_true, Bool.not_false, Bool.false_eq_true, Bool.true_eq_false, eq_self, true_implies, false_implies, true_and, and_true, decide_true, decide_false, Int.zero_add, N.R_sl, N.R_it, R_oNone, R_oSome, wipeN, N.R_lst, N.R_mkF, N.R_mkT, N.R_meth, N.v_addT, Ri_rng1, Ri_rng2, Ri_seq]
        rw [aft_nx, trimE_len (by simp [hs3, hsl]), hw, filter_snoc, if_neg (show ¬ winV es (List.range n) v = true from fun h' => by rw [show winV es (List.range n) v = false from h] at h'; cases h')]
        exact ⟨M2, hM2, rfl, by rw [hu3]⟩
  · obtain ⟨M1, hM1, rfl, rfl⟩ := hi
    rw [show (List.range n).take (List.range n).length = List.range n from List.take_length]
    have hsl : (u.set (s.length + 2 + n) (Mc false (nxs n es) M1)).length = u.length := List.length_set
    have e1 := tup_R (s := u.set (s.length + 2 + n) (Mc false (nxs n es) M1) ++ [cR ((List.range n).filter (winV es (List.range n)))]) (j := u.length) (l := (List.range n).filter (winV es (List.range n))) (by rw [← hsl]; exact cR_get)
    simp only [N.thn_nx, N.thn_rt, Rs_seq, Rs_set, Rs_ret, Rs_expr, Rs_nil, Rs_if, Rs_asg, Rs_aug, R_call, R_cons, R_nil, R_Var, R_C, R_bin, R_cmp, R_tcmp, R_tOr, R_tAnd, R_tNot, R_tVal, R_tTrue, R_ite, R_eAnd, R_eOr, R_eNot, R_neg, R_tup, R_isi, R_some, Rc_some, N.v_eq, N.v_ne, N.v_lt, N.v_le, N.v_gt, N.v_ge, N.v_add, N.v_sub, N.v_iadd, N.v_xor, N.v_int, N.tru_b, N.pd_d, N.data_nil, N.data_cons, N.len_t, N.v_tupT, N.g_name, N.isNone_n, N.isNone_t, N.isNone_i, N.v_isN, N.v_isNn, N.v_eqB, N.v_neB, List.set_cons_succ, List.set_cons_zero, List.getElem?_cons_succ, List.getElem?_cons_zero, Bool.not_true, Bool.not_false, Bool.false_eq_true, Bool.true_eq_false, eq_self, true_implies, false_implies, true_and, and_true, decide_true, decide_false, Int.zero_add, N.R_sl, N.R_it, R_oNone, R_oSome, wipeN, N.R_lst, N.R_mkF, N.R_mkT, N.R_meth, N.v_addT, Ri_rng1, Ri_rng2, Ri_seq, e1]
    rw [ht, List.set_append_right _ _ (by omega), List.append_assoc]
    unfold N.ret
    simp only []
    rw [trim_wf rfl W]
    exact R_some.mpr ⟨rfl, rfl⟩
theorem kemoves_ok (G : Gr n es) (h0 : 0 < n) (hn : n ≤ 12) (W : Wf s) : m_edge_kayles_moves C s [.d (gra n es)] = some (.d (tup ((List.range es.length).filter (winE es (List.range n)))), s) := by
  apply R.eq
  unfold m_edge_kayles_moves b_edge_kayles_moves
  rw [R_fn]
  refine ⟨rfl, ?_⟩
  simp only [List.map_cons, List.map_nil, List.cons_append, List.nil_append, List.length_cons, List.length_nil, Nat.reduceSub, Nat.reduceAdd, List.replicate_succ, List.replicate_zero]
  have en := new_ok (C := C) (b := true) (s := s) G h0 (by omega) (G.len2 hn) (e := [some (.d (gra n es)), none, none, none, none, none]) (two_of rfl)
  have GG := game_new (C := C) (b := true) W n es
  have X := nx_nxs G
  obtain ⟨t, ht, htl⟩ := gmN_app (C := C) (b := true) (s := s) (nxs n es)
  rw [nxs_len] at htl
  generalize hu : gmN C true s (nxs n es) = u at *
  have hul : u.length = s.length + n + 3 := by rw [ht, List.length_append, htl]; omega
  rw [Rs_seq, Rs_par]
  simp only [R_cons, R_nil, en, R_some, R_lst, R_mkT, List.length_nil]
  refine ⟨by unfold lim; omega, by simp, ?_⟩
  simp only [List.zip_cons_cons, List.zip_nil_right, List.foldl_cons, List.foldl_nil, List.set_cons_succ, List.set_cons_zero]
  rw [N.thn_nx, Rs_seq]
  refine Rs_for es.zipIdx (fun p => .d (.tuple [.int (p.2 : Nat), pr p.1])) (fun k e s' => ∃ M', Mok n M' ∧ e = [some (.d (gra n es)), some (.r s.length), some (.r u.length), none, none, none] ∧ s' = u.set (s.length + 2 + n) (Mc true (nxs n es) M') ++ [cR ((List.range k).filter (winE es (List.range n)))]) ?_ (fun k v e s' hk hi => ?_) (fun e s' hi => ?_)
  · simp only [Ri_enumT, Rs_nil, R_call, R_cons, R_nil, R_Var, R_C, R_bin, R_cmp, R_tcmp, R_tOr, R_tAnd, R_tNot, R_tVal, R_tTrue, R_ite, R_eAnd, R_eOr, R_eNot, R_neg, R_tup, R_isi, R_some, Rc_some, N.v_eq, N.v_ne, N.v_lt, N.v_le, N.v_gt, N.v_ge, N.v_add, N.v_sub, N.v_iadd, N.v_xor, N.v_int, N.tru_b, N.pd_d, N.data_nil, N.data_cons, N.len_t, N.v_tupT, N.g_name, N.isNone_n, N.isNone_t, N.isNone_i, N.v_isN, N.v_isNn, N.v_eqB, N.v_neB, List.set_cons_succ, List.set_cons_zero, List.getElem?_cons_succ, List.getElem?_cons_zero, Bool.not_true, Bool.not_false, Bool.false_eq_true, Bool.true_eq_false, eq_self, true_implies, false_implies, true_and, and_true, decide_true, decide_false, Int.zero_add, N.R_sl, N.R_it, R_oNone, R_oSome, wipeN, N.R_lst, N.R_mkF, N.R_mkT, N.R_meth, N.v_addT, Ri_rng1, Ri_rng2, Ri_seq, it_snd]
    refine ⟨?_, [], Mok.nil, ?_⟩
    · rw [enumD_zip, List.zipIdx_map, List.map_map]
      rfl
    · rw [GG.self]
      rfl
  · obtain ⟨M1, hM1, rfl, rfl⟩ := hi
    obtain ⟨hk1, hk2⟩ := List.getElem?_eq_some_iff.mp hk
    obtain ⟨ed, k'⟩ := v
    have hkl : k < es.length := by simpa using hk1
    rw [List.getElem_zipIdx] at hk2
    have ek : k' = k := by
      have := congrArg Prod.snd hk2
      simp only [] at this
      omega
    subst ek
    have hed : es.getD k' (0, 0) = ed := by
      rw [List.getD_eq_getElem?_getD, List.getElem?_eq_getElem hkl]
      exact congrArg Prod.fst hk2
    have G1 := GG.set hM1
    have hsl : (u.set (s.length + 2 + n) (Mc true (nxs n es) M1)).length = u.length := List.length_set
    generalize hu1 : u.set (s.length + 2 + n) (Mc true (nxs n es) M1) = u1 at *
    have hw := List.range_succ (n := k')
    generalize hT : List.range k' = T at *
    have lT : (T.filter (winE es (List.range n))).length ≤ 144 := by
      have h1 := List.length_filter_le (winE es (List.range n)) T
      rw [← hT, List.length_range] at h1
      have h2 := G.len
      have h3 : n * n ≤ 12 * 12 := Nat.mul_le_mul hn hn
      rw [← hT]
      omega
    have G2 : GM C s.length (s.length + 1) (s.length + 2 + n) n true (nxs n es) M1 (u1 ++ [cR (T.filter (winE es (List.range n)))]) := G1.app (nt (T.filter (winE es (List.range n))))
    simp only [N.g_tup, N.gs_cons, N.gs_nil, N.gs_len, g_name, List.length_cons, List.length_nil, Nat.reduceAdd, if_true, Rc_some, List.set_cons_succ, List.set_cons_zero]
    have er : R (eLc false [5] (iRng1 (aCons (eIt (eVar 0) (eC (.int 0))) aNil)) (gName 5) (tCmp (cIn true) (eVar 5) (eVar 4)) (eVar 5) [some (.d (gra n es)), some (.r s.length), some (.r u.length), some (enI k'), some (.d (pr ed)), none] (u1 ++ [cR (T.filter (winE es (List.range n)))])) fun d s1 => d = .d (.list (nt (rstE (List.range n) ed))) ∧ s1 = u1 ++ [cR (T.filter (winE es (List.range n)))] := by
      refine R_int_filter (l := List.range n) (p := fun o => !decide (o ∈ [ed.1, ed.2])) ?_ (by simp) (by rw [List.length_range]; unfold lim; omega) (fun x hx acc => ?_) ⟨rfl, rfl⟩
      · simp only [Rs_nil, R_call, R_cons, R_nil, R_Var, R_C, R_bin, R_cmp, R_tcmp, R_tOr, R_tAnd, R_tNot, R_tVal, R_tTrue, R_ite, R_eAnd, R_eOr, R_eNot, R_neg, R_tup, R_isi, R_some, Rc_some, N.v_eq, N.v_ne, N.v_lt, N.v_le, N.v_gt, N.v_ge, N.v_add, N.v_sub, N.v_iadd, N.v_xor, N.v_int, N.tru_b, N.pd_d, N.data_nil, N.data_cons, N.len_t, N.v_tupT, N.g_name, N.isNone_n, N.isNone_t, N.isNone_i, N.v_isN, N.v_isNn, N.v_eqB, N.v_neB, List.set_cons_succ, List.set_cons_zero, List.getElem?_cons_succ, List.getElem?_cons_zero, Bool.not_true, Bool.not_false, Bool.false_eq_true, Bool.true_eq_false, eq_self, true_implies, false_implies, true_and, and_true, decide_true, decide_false, Int.zero_add, N.R_sl, N.R_it, R_oNone, R_oSome, wipeN, N.R_lst, N.R_mkF, N.R_mkT, N.R_meth, N.v_addT, Ri_rng1, Ri_rng2, Ri_seq, it_fst]
        exact ⟨by omega, rng0' rfl⟩
      · simp only [Rs_nil, R_call, R_cons, R_nil, R_Var, R_C, R_bin, R_cmp, R_tcmp, R_tOr, R_tAnd, R_tNot, R_tVal, R_tTrue, R_ite, R_eAnd, R_eOr, R_eNot, R_neg, R_tup, R_isi, R_some, Rc_some, N.v_eq, N.v_ne, N.v_lt, N.v_le, N.v_gt, N.v_ge, N.v_add, N.v_sub, N.v_iadd, N.v_xor, N.v_int, N.tru_b, N.pd_d, N.data_nil, N.data_cons, N.len_t, N.v_tupT, N.g_name, N.isNone_n, N.isNone_t, N.isNone_i, N.v_isN, N.v_isNn, N.v_eqB, N.v_neB, List.set_cons_succ, List.set_cons_zero, List.getElem?_cons_succ, List.getElem?_cons_zero, Bool.not_true, Bool.not_false, Bool.false_eq_true, Bool.true_eq_false, eq_self, true_implies, false_implies, true_and, and_true, decide_true, decide_false, Int.zero_add, N.R_sl, N.R_it, R_oNone, R_oSome, wipeN, N.R_lst, N.R_mkF, N.R_mkT, N.R_meth, N.v_addT, Ri_rng1, Ri_rng2, Ri_seq]
        rw [show D.d (pr ed) = .d (.tuple (nt [ed.1, ed.2])) from rfl, v_inNt]
        exact Rc_some.mpr rfl
    have el := R.eq er
    have aS : As n (rstE (List.range n) ed) := (As.range n).fil _
    obtain ⟨M2, hM2, ev⟩ := value_ok hn X 14 (rstE (List.range n) ed) M1 _ (by have := aS.len; omega) aS G2
    have ea : aCons (eLc false [5] (iRng1 (aCons (eIt (eVar 0) (eC (.int 0))) aNil)) (gName 5) (tCmp (cIn true) (eVar 5) (eVar 4)) (eVar 5)) aNil [some (.d (gra n es)), some (.r s.length), some (.r u.length), some (enI k'), some (.d (pr ed)), none] (u1 ++ [cR (T.filter (winE es (List.range n)))]) = some ([.d (.list (nt (rstE (List.range n) ed)))], u1 ++ [cR (T.filter (winE es (List.range n)))]) := by
      apply R.eq
      rw [R_cons, el, R_some, R_nil]
      exact ⟨rfl, rfl⟩
    have em := eMeth_of (C := C) (x := "value") (ma := eVar 1) (e := [some (.d (gra n es)), some (.r s.length), some (.r u.length), some (enI k'), some (.d (pr ed)), none]) (var_of rfl) G2.v.ins rfl ea ev
    rw [List.set_append_left _ _ (by rw [hsl]; omega), ← hu1, List.set_set, adj_nxs G] at em
    have G3 := GG.set hM2
    have hs3 : (u.set (s.length + 2 + n) (Mc true (nxs n es) M2)).length = u.length := List.length_set
    generalize hu3 : u.set (s.length + 2 + n) (Mc true (nxs n es) M2) = u3 at *
    rw [hu1] at em
    have cg : (u3 ++ [cR (T.filter (winE es (List.range n)))])[u.length]? = some (.lst ((nt (T.filter (winE es (List.range n)))).map .d)) := by
      rw [← hs3]; exact cR_get
    have cs : (u3 ++ [cR (T.filter (winE es (List.range n)))]).set u.length (.lst ((nt (T.filter (winE es (List.range n)))).map .d ++ [enI k'])) = u3 ++ [cR (T.filter (winE es (List.range n)) ++ [k'])] := by
      rw [← hs3]; exact cR_app
    rw [Rs_seq, Rs_if, R_tcmp, em, R_some]
    simp only [R_C, N.v_eq, Rc_some, eq0]
    refine ⟨fun h => ?_, fun h => ?_⟩
    · simp only [N.thn_nx, N.thn_rt, Rs_seq, Rs_set, Rs_ret, Rs_expr, Rs_nil, Rs_if, Rs_asg, Rs_aug, R_call, R_cons, R_nil, R_Var, R_C, R_bin, R_cmp, R_tcmp, R_tOr, R_tAnd, R_tNot, R_tVal, R_tTrue, R_ite, R_eAnd, R_eOr, R_eNot, R_neg, R_tup, R_isi, R_some, Rc_some, N.v_eq, N.v_ne, N.v_lt, N.v_le, N.v_gt, N.v_ge, N.v_add, N.v_sub, N.v_iadd, N.v_xor, N.v_int, N.tru_b, N.pd_d, N.data_nil, N.data_cons, N.len_t, N.v_tupT, N.g_name, N.isNone_n, N.isNone_t, N.isNone_i, N.v_isN, N.v_isNn, N.v_eqB, N.v_neB, List.set_cons_succ, List.set_cons_zero, List.getElem?_cons_succ, List.getElem?_cons_zero, Bool.not_true, Bool.not_false, Bool.false_eq_true, Bool.true_eq_false, eq_self, true_implies, false_implies, true_and, and_true, decide_true, decide_false, Int.zero_add, N.R_sl, N.R_it, R_oNone, R_oSome, wipeN, N.R_lst, N.R_mkF, N.R_mkT, N.R_meth, N.v_addT, Ri_rng1, Ri_rng2, Ri_seq, cg, N.v_app, List.length_map, N.nt_len]
      refine ⟨by unfold lim; omega, ?_⟩
      rw [cs, aft_nx, trimE_len (by simp [hs3, hsl]), hw, filter_snoc, if_pos (show winE es (List.range n) k' = true from by unfold winE; rw [hed]; exact h)]
      exact ⟨M2, hM2, rfl, by rw [hu3]⟩
    · simp only [N.thn_nx, N.thn_rt, Rs_seq, Rs_set, Rs_ret, Rs_expr, Rs_nil, Rs_if, Rs_asg, Rs_aug, R_call, R_cons, R_nil, R_Var, R_C, R_bin, R_cmp, R_tcmp, R_tOr, R_tAnd, R_tNot, R_tVal, R_tTrue, R_ite, R_eAnd, R_eOr, R_eNot, R_neg, R_tup, R_isi, R_some, Rc_some, N.v_eq, N.v_ne, N.v_lt, N.v_le, N.v_gt, N.v_ge, N.v_add, N.v_sub, N.v_iadd, N.v_xor, N.v_int, N.tru_b, N.pd_d, N.data_nil, N.data_cons, N.len_t, N.v_tupT, N.g_name, N.isNone_n, N.isNone_t, N.isNone_i, N.v_isN, N.v_isNn, N.v_eqB, N.v_neB, List.set_cons_succ, List.set_cons_zero, List.getElem?_cons_succ, List.getElem?_cons_zero, Bool.not_true, Bool.not_false, Bool.false_eq_true, Bool.true_eq_false, eq_self, true_implies, false_implies, true_and, and_true, decide_true, decide_false, Int.zero_add, N.R_sl, N.R_it, R_oNone, R_oSome, wipeN, N.R_lst, N.R_mkF, N.R_mkT, N.R_meth, N.v_addT, Ri_rng1, Ri_rng2, Ri_seq]
      rw [aft_nx, trimE_len (by simp [hs3, hsl]), hw, filter_snoc, if_neg (show ¬ winE es (List.range n) k' = true from by unfold winE; rw [hed]; rw [h]; exact Bool.false_ne_true)]
      exact ⟨M2, hM2, rfl, by rw [hu3]⟩
  · obtain ⟨M1, hM1, rfl, rfl⟩ := hi
    rw [List.length_zipIdx]
    have hsl : (u.set (s.length + 2 + n) (Mc true (nxs n es) M1)).length = u.length := List.length_set
    have e1 := tup_R (s := u.set (s.length + 2 + n) (Mc true (nxs n es) M1) ++ [cR ((List.range es.length).filter (winE es (List.range n)))]) (j := u.length) (l := (List.range es.length).filter (winE es (List.range n))) (by rw [← hsl]; exact cR_get)
    simp only [N.thn_nx, N.thn_rt, Rs_seq, Rs_set, Rs_ret, Rs_expr, Rs_nil, Rs_if, Rs_asg, Rs_aug, R_call, R_cons, R_nil, R_Var, R_C, R_bin, R_cmp, R_tcmp, R_tOr, R_tAnd, R_tNot, R_tVal, R_tTrue, R_ite, R_eAnd, R_eOr, R_eNot, R_neg, R_tup, R_isi, R_some, Rc_some, N.v_eq, N.v_ne, N.v_lt, N.v_le, N.v_gt, N.v_ge, N.v_add, N.v_sub, N.v_iadd, N.v_xor, N.v_int, N.tru_b, N.pd_d, N.data_nil, N.data_cons, N.len_t, N.v_tupT, N.g_name, N.isNone_n, N.isNone_t, N.isNone_i, N.v_isN, N.v_isNn, N.v_eqB, N.v_neB, List.set_cons_succ, List.set_cons_zero, List.getElem?_cons_succ, List.getElem?_cons_zero, Bool.not_true, Bool.not_false, Bool.false_eq_true, Bool.true_eq_false, eq_self, true_implies, false_implies, true_and, and_true, decide_true, decide_false, Int.zero_add, N.R_sl, N.R_it, R_oNone, R_oSome, wipeN, N.R_lst, N.R_mkF, N.R_mkT, N.R_meth, N.v_addT, Ri_rng1, Ri_rng2, Ri_seq, e1]
    rw [ht, List.set_append_right _ _ (by omega), List.append_assoc]
    unfold N.ret
    simp only []
    rw [trim_wf rfl W]
    exact R_some.mpr ⟨rfl, rfl⟩
end T78

namespace T78
open PySem L2 PyProof.Rows N
open Ky (Adj adjN Nx As g near behV behE behAt beh)
theorem R_lmissD {ns : List Nat} {M : Nat} {d : D} {s : Sto} (hd : ∀ k : Nat, cIn false s (.d (.int (k : Nat))) d = some (decide (k ∈ ns))) (hM : ∀ n ∈ ns, n < M) (hM2 : M < 2 ^ 63) {Q : D → Sto → Prop} (q : ∀ k, Mex ns k → Q (.d (.int (k : Nat))) s) : R (m__law_missing s [d]) Q := by
  unfold m__law_missing b__law_missing
  simp [R_fn]
  refine Rs_while (fun m e s' => s' = s ∧ ∃ k, (∀ i < k, i ∈ ns) ∧ m + k = M ∧ e = [some d, some (.d (.int (k : Nat)))]) (m := M) (by omega) ⟨rfl, 0, by simp, by simp, rfl⟩ (fun m e s' hi => ?_)
  obtain ⟨rfl, k, h1, h2, rfl⟩ := hi
  simp [hd]
  refine ⟨fun h => ?_, fun h => ?_⟩
  · exact q k ⟨h1, h⟩
  · have := hM k h
    refine ⟨m - 1, by omega, k + 1, fun i hi => ?_, by omega, by simp [wipeN]⟩
    rcases Nat.lt_or_ge i k with h' | h'
    · exact h1 i h'
    · rwa [show i = k by omega]
variable {C : Addr} {n : Nat} {b : Bool} {s : Sto} {es : List (Nat × Nat)}
def nearL (es : List (Nat × Nat)) (v : Nat) : List Nat := (es.filter fun e => decide (v ∈ [e.1, e.2])).map fun e => e.1 + e.2 - v
theorem mem_nearL {v o : Nat} : o ∈ nearL es v ↔ (v, o) ∈ es ∨ (o, v) ∈ es := by
  unfold nearL
  rw [List.mem_map]
  constructor
  · rintro ⟨⟨i, j⟩, h, rfl⟩
    obtain ⟨h1, h2⟩ := List.mem_filter.mp h
    have h2 := of_decide_eq_true h2
    simp only [List.mem_cons, List.not_mem_nil, or_false] at h2
    rcases h2 with rfl | rfl
    · exact .inl (by simpa using h1)
    · exact .inr (by simpa using h1)
  · rintro (h | h)
    · exact ⟨(v, o), List.mem_filter.mpr ⟨h, by simp⟩, by simp⟩
    · exact ⟨(o, v), List.mem_filter.mpr ⟨h, by simp⟩, by simp⟩
theorem near_law (hl : es.length ≤ 10000) (v : Nat) (s : Sto) : m__law_near s [.d (gra n es), .d (.int (v : Nat))] = some (.d (.list (nt (nearL es v))), s) := by
  apply R.eq
  unfold m__law_near b__law_near
  rw [R_fn]
  refine ⟨rfl, ?_⟩
  simp only [List.map_cons, List.map_nil, List.cons_append, List.nil_append, List.length_cons, List.length_nil, Nat.reduceSub, Nat.reduceAdd, List.replicate_succ, List.replicate_zero]
  rw [Rs_seq, Rs_ret]
  refine R_lc es (fun e => .d (pr e)) (fun e => .int ((e.1 + e.2 - v : Nat) : Int)) (fun e => decide (v ∈ [e.1, e.2])) ?_ (fun e he acc => ?_) (by unfold lim; omega) ?_
  · simp only [Rs_nil, R_call, R_cons, R_nil, R_Var, R_C, R_bin, R_cmp, R_tcmp, R_tOr, R_tAnd, R_tNot, R_tVal, R_tTrue, R_ite, R_eAnd, R_eOr, R_eNot, R_neg, R_tup, R_isi, R_some, Rc_some, N.v_eq, N.v_ne, N.v_lt, N.v_le, N.v_gt, N.v_ge, N.v_add, N.v_sub, N.v_iadd, N.v_xor, N.v_int, N.tru_b, N.pd_d, N.data_nil, N.data_cons, N.len_t, N.v_tupT, N.g_name, N.isNone_n, N.isNone_t, N.isNone_i, N.v_isN, N.v_isNn, N.v_eqB, N.v_neB, List.set_cons_succ, List.set_cons_zero, List.getElem?_cons_succ, List.getElem?_cons_zero, Bool.not_true, Bool.not_false, Bool.false_eq_true, Bool.true_eq_false, eq_self, true_implies, false_implies, true_and, and_true, decide_true, decide_false, Int.zero_add, N.R_sl, N.R_it, R_oNone, R_oSome, wipeN, N.R_lst, N.R_mkF, N.R_mkT, N.R_meth, N.v_addT, Ri_rng1, Ri_rng2, Ri_seq, it_snd]
    rw [List.map_map]
    try rfl
  · simp only [N.g_tup, N.gs_cons, N.gs_nil, N.gs_len, g_name, List.length_cons, List.length_nil, Nat.reduceAdd, if_true, Rc_some, List.set_cons_succ, List.set_cons_zero, wipeN]
    simp only [Rs_nil, R_call, R_cons, R_nil, R_Var, R_C, R_bin, R_cmp, R_tcmp, R_tOr, R_tAnd, R_tNot, R_tVal, R_tTrue, R_ite, R_eAnd, R_eOr, R_eNot, R_neg, R_tup, R_isi, R_some, Rc_some, N.v_eq, N.v_ne, N.v_lt, N.v_le, N.v_gt, N.v_ge, N.v_add, N.v_sub, N.v_iadd, N.v_xor, N.v_int, N.tru_b, N.pd_d, N.data_nil, N.data_cons, N.len_t, N.v_tupT, N.g_name, N.isNone_n, N.isNone_t, N.isNone_i, N.v_isN, N.v_isNn, N.v_eqB, N.v_neB, List.set_cons_succ, List.set_cons_zero, List.getElem?_cons_succ, List.getElem?_cons_zero, Bool.not_true, Bool.not_false, Bool.false_eq_true, Bool.true_eq_false, eq_self, true_implies, false_implies, true_and, and_true, decide_true, decide_false, Int.zero_add, N.R_sl, N.R_it, R_oNone, R_oSome, wipeN, N.R_lst, N.R_mkF, N.R_mkT, N.R_meth, N.v_addT, Ri_rng1, Ri_rng2, Ri_seq, List.length_cons, List.length_nil]
    refine ⟨by unfold lim; omega, ?_⟩
    rw [show D.d (PyData.tuple [PyData.int (e.1 : Nat), .int (e.2 : Nat)]) = .d (.tuple (nt [e.1, e.2])) from rfl, v_inNt, Rc_some]
    refine ⟨rfl, fun h => ?_⟩
    have h := of_decide_eq_true h
    simp only [List.mem_cons, List.not_mem_nil, or_false] at h
    congr 2
    omega
  · simp only [N.thn_nx, N.thn_rt, Rs_seq, Rs_set, Rs_ret, Rs_expr, Rs_nil, Rs_if, Rs_asg, Rs_aug, R_call, R_cons, R_nil, R_Var, R_C, R_bin, R_cmp, R_tcmp, R_tOr, R_tAnd, R_tNot, R_tVal, R_tTrue, R_ite, R_eAnd, R_eOr, R_eNot, R_neg, R_tup, R_isi, R_some, Rc_some, N.v_eq, N.v_ne, N.v_lt, N.v_le, N.v_gt, N.v_ge, N.v_add, N.v_sub, N.v_iadd, N.v_xor, N.v_int, N.tru_b, N.pd_d, N.data_nil, N.data_cons, N.len_t, N.v_tupT, N.g_name, N.isNone_n, N.isNone_t, N.isNone_i, N.v_isN, N.v_isNn, N.v_eqB, N.v_neB, List.set_cons_succ, List.set_cons_zero, List.getElem?_cons_succ, List.getElem?_cons_zero, Bool.not_true, Bool.not_false, Bool.false_eq_true, Bool.true_eq_false, eq_self, true_implies, false_implies, true_and, and_true, decide_true, decide_false, Int.zero_add, N.R_sl, N.R_it, R_oNone, R_oSome, wipeN, N.R_lst, N.R_mkF, N.R_mkT, N.R_meth, N.v_addT, Ri_rng1, Ri_rng2, Ri_seq]
    unfold N.ret
    simp only []
    rw [trim_len rfl]
    refine R_some.mpr ⟨?_, rfl⟩
    unfold nearL nt
    rw [List.map_map]
    rfl
theorem rest_law (hl : es.length ≤ 10000) (v : Nat) (S : List Nat) (hS : S.length ≤ 1000) (s : Sto) (W : Wf s) : m__law_rest s [.d (gra n es), .d (tup S), .d (.int (v : Nat))] = some (.d (tup (rstV es S v)), s) := by
  apply R.eq
  unfold m__law_rest b__law_rest
  rw [R_fn]
  refine ⟨rfl, ?_⟩
  simp only [List.map_cons, List.map_nil, List.cons_append, List.nil_append, List.length_cons, List.length_nil, Nat.reduceSub, Nat.reduceAdd, List.replicate_succ, List.replicate_zero]
  rw [Rs_seq, Rs_ret, R_call, R_cons]
  refine R_int_filter (l := S) (p := fun o => decide (o ≠ v) && !adjE es v o) ?_ (by simp) (by unfold lim; omega) (fun x hx acc => ?_) ?_
  · simp only [Rs_nil, R_call, R_cons, R_nil, R_Var, R_C, R_bin, R_cmp, R_tcmp, R_tOr, R_tAnd, R_tNot, R_tVal, R_tTrue, R_ite, R_eAnd, R_eOr, R_eNot, R_neg, R_tup, R_isi, R_some, Rc_some, N.v_eq, N.v_ne, N.v_lt, N.v_le, N.v_gt, N.v_ge, N.v_add, N.v_sub, N.v_iadd, N.v_xor, N.v_int, N.tru_b, N.pd_d, N.data_nil, N.data_cons, N.len_t, N.v_tupT, N.g_name, N.isNone_n, N.isNone_t, N.isNone_i, N.v_isN, N.v_isNn, N.v_eqB, N.v_neB, List.set_cons_succ, List.set_cons_zero, List.getElem?_cons_succ, List.getElem?_cons_zero, Bool.not_true, Bool.not_false, Bool.false_eq_true, Bool.true_eq_false, eq_self, true_implies, false_implies, true_and, and_true, decide_true, decide_false, Int.zero_add, N.R_sl, N.R_it, R_oNone, R_oSome, wipeN, N.R_lst, N.R_mkF, N.R_mkT, N.R_meth, N.v_addT, Ri_rng1, Ri_rng2, Ri_seq, tup]
    exact nt_enI S
  · have e5 : (!decide ((x : Int) = (v : Int))) = decide (x ≠ v) := by
      rw [Bool.eq_iff_iff]; simp; omega
    have e6 : decide (x ∈ nearL es v) = adjE es v x := by
      unfold adjE
      rw [Bool.eq_iff_iff, decide_eq_true_eq, mem_nearL, Bool.or_eq_true, decide_eq_true_eq, decide_eq_true_eq]
    simp only [Rs_nil, R_call, R_cons, R_nil, R_Var, R_C, R_bin, R_cmp, R_tcmp, R_tOr, R_tAnd, R_tNot, R_tVal, R_tTrue, R_ite, R_eAnd, R_eOr, R_eNot, R_neg, R_tup, R_isi, R_some, Rc_some, N.v_eq, N.v_ne, N.v_lt, N.v_le, N.v_gt, N.v_ge, N.v_add, N.v_sub, N.v_iadd, N.v_xor, N.v_int, N.tru_b, N.pd_d, N.data_nil, N.data_cons, N.len_t, N.v_tupT, N.g_name, N.isNone_n, N.isNone_t, N.isNone_i, N.v_isN, N.v_isNn, N.v_eqB, N.v_neB, List.set_cons_succ, List.set_cons_zero, List.getElem?_cons_succ, List.getElem?_cons_zero, Bool.not_true, Bool.not_false, Bool.false_eq_true, Bool.true_eq_false, eq_self, true_implies, false_implies, true_and, and_true, decide_true, decide_false, Int.zero_add, N.R_sl, N.R_it, R_oNone, R_oSome, wipeN, N.R_lst, N.R_mkF, N.R_mkT, N.R_meth, N.v_addT, Ri_rng1, Ri_rng2, Ri_seq, wipeN, near_law hl, v_inLn, e5, e6]
    rw [if_pos trivial]
    exact ⟨fun h => by rw [h]; rfl, fun h => by rw [h]; rfl⟩
  · simp only [R_nil, v_tupL, R_some, N.thn_rt]
    unfold N.ret
    simp only []
    rw [trim_len rfl]
    exact R_some.mpr ⟨rfl, rfl⟩

/-- a memo of the law stands in the store -/
structure LM (kk n : Nat) (b : Bool) (nx : List (List Nat)) (M : List (List Nat)) (s : Sto) : Prop where
  wf : Wf s
  ok : Mok n M
  k : s[kk]? = some (Mc b nx M)
variable {kk : Nat} {nx : List (List Nat)} {M M' : List (List Nat)}
theorem LM.set (h : LM kk n b nx M s) (ok : Mok n M') : LM kk n b nx M' (s.set kk (Mc b nx M')) := ⟨wf_set h.wf, ok, get_set h.k⟩
theorem LM.self (h : LM kk n b nx M s) : s.set kk (Mc b nx M) = s := set_of h.k
theorem LM.app (h : LM kk n b nx M s) (xs : List PyData) : LM kk n b nx M (s ++ [.lst (xs.map .d)]) := ⟨wf_lst h.wf xs, h.ok, get_app h.k⟩
theorem LM.lt (h : LM kk n b nx M s) : kk < s.length := (List.getElem?_eq_some_iff.mp h.k).1
theorem LM.inD (h : LM kk n b nx M s) (P : List Nat) : cIn true s (.d (tup P)) (.r kk) = some (!decide (P ∈ M)) := by
  show cIn true s (.d (.tuple (nt P))) (.r kk) = _
  rw [v_inD h.k (key_of P), if_pos rfl]
  have h : dHas (DG tup (vf b nx) M) (.tuple (nt P)) = _ := has_DG (kf := tup) (vf := vf b nx) (fun _ _ => tup_inj) M P
  rw [h]
  congr 2
  exact decide_eq_decide.mpr Iff.rfl
theorem LM.get (h : LM kk n b nx M s) {P : List Nat} (hP : P ∈ M) : itF s (.r kk) (.d (tup P)) = some (.d (.int (g b (adjN nx) P : Nat))) := itF_k h.k (key_of P) (get_DG (kf := tup) (vf := vf b nx) (fun _ _ => tup_inj) hP)
theorem LM.put (h : LM kk n b nx M s) (hn : n ≤ 12) {P : List Nat} (a : As n P) : ∃ M3, Mok n M3 ∧ P ∈ M3 ∧ putF s (.r kk) (.d (tup P)) (.d (.int (g b (adjN nx) P : Nat))) = some (s.set kk (Mc b nx M3)) := by
  obtain ⟨M3, h1, h2, h3⟩ := h.ok.put' (b := b) (nx := nx) a
  refine ⟨M3, h1, h2, ?_⟩
  show putF s (.r kk) (.d (.tuple (nt P))) _ = _
  rw [putF_k h.k (key_of P) (by unfold DG; rw [List.length_map]; exact h.ok.len hn)]
  exact congrArg (fun c => some (s.set kk (Cell.dic c))) h3
theorem lvalue_ok (G : Gr n es) (hn : n ≤ 12) : ∀ (f : Nat) (S : List Nat) (M : List (List Nat)) (s : Sto), S.length < f → As n S → LM kk n false (nxs n es) M s → ∃ M', Mok n M' ∧ m__law_value f s [.d (gra n es), .d (tup S), .r kk] = some (.d (.int (g false (adjE es) S : Nat)), s.set kk (Mc false (nxs n es) M'))
  | 0, _, _, _, h, _, _ => absurd h (by omega)
  | f + 1, S, M, s, hS, a, L => by
    suffices h : R (m__law_value (f + 1) s [.d (gra n es), .d (tup S), .r kk]) fun d s' => ∃ M', Mok n M' ∧ d = .d (.int (g false (adjE es) S : Nat)) ∧ s' = s.set kk (Mc false (nxs n es) M') by
      obtain ⟨_, _, h, M', hM, rfl, rfl⟩ := h
      exact ⟨M', hM, h⟩
    have ih := fun S M s => lvalue_ok G hn f S M s
    have hSl := a.len
    have eg := adj_nxs G
    unfold m__law_value b__law_value
    rw [R_fn]
    refine ⟨rfl, ?_⟩
    simp only [List.map_cons, List.map_nil, List.cons_append, List.nil_append, List.length_cons, List.length_nil, Nat.reduceSub, Nat.reduceAdd, List.replicate_succ, List.replicate_zero]
    have fin : ∀ M2, Mok n M2 → S ∈ M2 → ∀ s2, s2 = s.set kk (Mc false (nxs n es) M2) → Rs (sSeq (sRet (eIt (eVar 2) (eVar 1))) sNil [some (.d (gra n es)), some (.d (tup S)), some (.r kk), none] s2) (fun fl x s' => match fl with
          | .rt d => R (N.ret false s d s') fun d s' => ∃ M', Mok n M' ∧ d = .d (.int (g false (adjE es) S : Nat)) ∧ s' = s.set kk (Mc false (nxs n es) M')
          | .nx => R (N.ret false s (.d .none) s') fun d s' => ∃ M', Mok n M' ∧ d = .d (.int (g false (adjE es) S : Nat)) ∧ s' = s.set kk (Mc false (nxs n es) M')
          | _ => False) := fun M2 hM2 hS2 s2 e2 => by
      have L2 := L.set hM2
      rw [← e2] at L2
      have gt := L2.get hS2
      rw [eg] at gt
      simp only [N.thn_nx, N.thn_rt, Rs_seq, Rs_set, Rs_ret, Rs_expr, Rs_nil, Rs_if, Rs_asg, Rs_aug, R_call, R_cons, R_nil, R_Var, R_C, R_bin, R_cmp, R_tcmp, R_tOr, R_tAnd, R_tNot, R_tVal, R_tTrue, R_ite, R_eAnd, R_eOr, R_eNot, R_neg, R_tup, R_isi, R_some, Rc_some, N.v_eq, N.v_ne, N.v_lt, N.v_le, N.v_gt, N.v_ge, N.v_add, N.v_sub, N.v_iadd, N.v_xor, N.v_int, N.tru_b, N.pd_d, N.data_nil, N.data_cons, N.len_t, N.v_tupT, N.g_name, N.isNone_n, N.isNone_t, N.isNone_i, N.v_isN, N.v_isNn, N.v_eqB, N.v_neB, List.set_cons_succ, List.set_cons_zero, List.getElem?_cons_succ, List.getElem?_cons_zero, Bool.not_true, Bool.not_false, Bool.false_eq_true, Bool.true_eq_false, eq_self, true_implies, false_implies, true_and, and_true, decide_true, decide_false, Int.zero_add, N.R_sl, N.R_it, R_oNone, R_oSome, wipeN, N.R_lst, N.R_mkF, N.R_mkT, N.R_meth, N.v_addT, Ri_rng1, Ri_rng2, Ri_seq, gt]
      unfold N.ret
      simp only []
      rw [trim_len (by rw [e2]; simp)]
      exact R_some.mpr ⟨M2, hM2, rfl, e2⟩
    rw [Rs_seq, Rs_if]
    simp only [R_tcmp, R_Var, List.getElem?_cons_succ, List.getElem?_cons_zero, R_some, L.inD, Rc_some]
    refine ⟨fun h => ?_, fun h => ?_⟩
    · rw [Rs_seq, Rs_pu, R_call, R_cons]
      refine R_lcI S enI s.length (fun i acc s' => acc = nt ((S.take i).map fun v => g false (adjE es) (rstV es S v)) ∧ ∃ M2, Mok n M2 ∧ s' = s.set kk (Mc false (nxs n es) M2)) ?_ (fun i acc s' hi => ?_) (fun i v acc s' hk hi => ?_) (by unfold lim; omega) (fun acc s' hi => ?_)
      · simp only [Ri_seq, R_Var, List.getElem?_cons_succ, List.getElem?_cons_zero, tup]
        exact ⟨nt_enI S, trivial, rfl, M, L.ok, L.self.symm⟩
      · obtain ⟨_, M2, hM2, rfl⟩ := hi
        exact ⟨by simp, wf_set L.wf⟩
      · obtain ⟨rfl, M2, hM2, rfl⟩ := hi
        obtain ⟨hi1, hi2⟩ := List.getElem?_eq_some_iff.mp hk
        have hv : v ∈ S := hi2 ▸ List.getElem_mem hi1
        have lT : (rstV es S v).length < S.length := Ky.filter_lt hv (by simp)
        have aT : As n (rstV es S v) := a.fil _
        have L2 := (L.set hM2).app (nt ((S.take i).map fun v => g false (adjE es) (rstV es S v)))
        obtain ⟨M3, hM3, e3⟩ := ih (rstV es S v) M2 _ (by omega) aT L2
        rw [g_name, Rc_some]
        simp only [R_tTrue, wipeN, List.set_cons_succ, List.set_cons_zero]
        refine ⟨fun h => (by cases h), fun _ => ?_⟩
        simp only [R_call, R_cons, R_nil, R_Var, List.getElem?_cons_succ, List.getElem?_cons_zero, rest_law (G.len2 hn) v S (by omega) _ L2.wf, R_some, e3]
        refine ⟨_, s.set kk (Mc false (nxs n es) M3), rfl, ?_, ?_, M3, hM3, rfl⟩
        · rw [List.set_append_left _ _ (by rw [List.length_set]; exact L.lt), List.set_set]
        · rw [List.take_succ_eq_append_getElem hi1, hi2]
          simp [nt]
      · obtain ⟨rfl, M2, hM2, rfl⟩ := hi
        rw [List.take_length]
        have L2 := L.set hM2
        rw [R_nil]
        refine R_lmissD (M := 2 ^ 62) (ns := S.map fun v => g false (adjE es) (rstV es S v)) (fun k => v_inLn) (fun x hx => ?_) (by decide) (fun q hq => ?_)
        · obtain ⟨v, hv, rfl⟩ := List.mem_map.mp hx
          have h1 := Ky.g_le (nx_nxs G) false (rstV es S v)
          rw [eg] at h1
          have h3 : (rstV es S v).length ≤ 12 := by have := (a.fil (fun o => decide (o ≠ v) && !adjE es v o)).len; exact Nat.le_trans this hn
          have h2 : (rstV es S v).length * (rstV es S v).length ≤ 12 * 12 := Nat.mul_le_mul h3 h3
          omega
        · have hq : q = g false (adjN (nxs n es)) S := by
            rw [eg]
            refine Mex.uniq hq ?_
            have := Ky.g_mex false (adjE es) S
            rw [show Ky.opts false (adjE es) S = S.map (rstV es S) from rfl, List.map_map] at this
            exact this
          subst hq
          obtain ⟨M3, h1, h2, h3⟩ := L2.put hn a
          simp only [R_some, R_Var, List.getElem?_cons_succ, List.getElem?_cons_zero, h3, Rc_some, N.thn_nx, Rs_nil]
          exact fin M3 h1 h2 _ (by rw [List.set_set])
    · rw [Rs_nil, N.thn_nx]
      have : S ∈ M := by simpa using h
      exact fin M L.ok this s L.self.symm
end T78

namespace T78
open PySem L2 PyProof.Rows N
open Ky (Adj adjN Nx As g near behV behE behAt beh)
variable {C : Addr} {n : Nat} {b : Bool} {s : Sto} {es : List (Nat × Nat)} {kk : Nat} {nx : List (List Nat)} {M M' : List (List Nat)}
def in2 (S : List Nat) (e : Nat × Nat) : Bool := decide (e.1 ∈ S) && decide (e.2 ∈ S)
def wor (es : List (Nat × Nat)) (S : List Nat) (l : List (Nat × Nat)) : List Nat := (l.filter (in2 S)).map fun e => g true (adjE es) (rstE S e)
theorem rstE_lt {S : List Nat} {e : Nat × Nat} (h : in2 S e = true) : (rstE S e).length < S.length := by
  unfold in2 at h
  rw [Bool.and_eq_true] at h
  exact Ky.filter_lt (of_decide_eq_true h.1) (by simp)
theorem rstE_le {S : List Nat} {e : Nat × Nat} : (rstE S e).length ≤ S.length := List.length_filter_le _ _
theorem wor_mex (G : Gr n es) (S : List Nat) : Mex (wor es S es) (g true (adjE es) S) := by
  refine Ky.Mex.congr (fun x => ?_) (Ky.g_mex true (adjE es) S)
  unfold wor
  rw [List.mem_map, List.mem_map]
  have key : ∀ e : Nat × Nat, rstE S e = S.filter fun o => decide (o ≠ e.1) && decide (o ≠ e.2) := fun e => Ky.behE_eq S e.1 e.2
  constructor
  · rintro ⟨T, hT, rfl⟩
    obtain ⟨u, hu, v, hv, h1, h2, rfl⟩ := Ky.mem_optsE.mp hT
    have hm : (u, v) ∈ es := by
      unfold adjE at h2
      rw [Bool.or_eq_true, decide_eq_true_eq, decide_eq_true_eq] at h2
      rcases h2 with h | h
      · exact h
      · have := G.lt _ h; simp only [] at this; omega
    exact ⟨(u, v), List.mem_filter.mpr ⟨hm, by unfold in2; rw [decide_eq_true hu, decide_eq_true hv]; rfl⟩, by rw [key]⟩
  · rintro ⟨⟨u, v⟩, h, rfl⟩
    obtain ⟨h1, h2⟩ := List.mem_filter.mp h
    unfold in2 at h2
    rw [Bool.and_eq_true, decide_eq_true_eq, decide_eq_true_eq] at h2
    exact ⟨_, Ky.mem_optsE.mpr ⟨u, h2.1, v, h2.2, G.lt _ h1, by unfold adjE; rw [decide_eq_true h1]; rfl, rfl⟩, by rw [key]⟩
theorem ledge_ok (G : Gr n es) (hn : n ≤ 12) : ∀ (f : Nat) (S : List Nat) (M : List (List Nat)) (s : Sto), S.length < f → As n S → LM kk n true (nxs n es) M s → ∃ M', Mok n M' ∧ m__law_edge_value f s [.d (gra n es), .d (tup S), .r kk] = some (.d (.int (g true (adjE es) S : Nat)), s.set kk (Mc true (nxs n es) M'))
  | 0, _, _, _, h, _, _ => absurd h (by omega)
  | f + 1, S, M, s, hS, a, L => by
    suffices h : R (m__law_edge_value (f + 1) s [.d (gra n es), .d (tup S), .r kk]) fun d s' => ∃ M', Mok n M' ∧ d = .d (.int (g true (adjE es) S : Nat)) ∧ s' = s.set kk (Mc true (nxs n es) M') by
      obtain ⟨_, _, h, M', hM, rfl, rfl⟩ := h
      exact ⟨M', hM, h⟩
    have ih := fun S M s => ledge_ok G hn f S M s
    have hSl := a.len
    have eg := adj_nxs G
    have el := G.len2 hn
    unfold m__law_edge_value b__law_edge_value
    rw [R_fn]
    refine ⟨rfl, ?_⟩
    simp only [List.map_cons, List.map_nil, List.cons_append, List.nil_append, List.length_cons, List.length_nil, Nat.reduceSub, Nat.reduceAdd, List.replicate_succ, List.replicate_zero]
    have fin : ∀ M2 e3 t, Mok n M2 → S ∈ M2 → Rs (sSeq (sRet (eIt (eVar 2) (eVar 1))) sNil [some (.d (gra n es)), some (.d (tup S)), some (.r kk), e3, none, none, none] (s.set kk (Mc true (nxs n es) M2) ++ t)) (fun fl x s' => match fl with
          | .rt d => R (N.ret false s d s') fun d s' => ∃ M', Mok n M' ∧ d = .d (.int (g true (adjE es) S : Nat)) ∧ s' = s.set kk (Mc true (nxs n es) M')
          | .nx => R (N.ret false s (.d .none) s') fun d s' => ∃ M', Mok n M' ∧ d = .d (.int (g true (adjE es) S : Nat)) ∧ s' = s.set kk (Mc true (nxs n es) M')
          | _ => False) := fun M2 e3 t hM2 hS2 => by
      have L2 := L.set hM2
      have gt : itF (s.set kk (Mc true (nxs n es) M2) ++ t) (.r kk) (.d (tup S)) = some (.d (.int (g true (adjN (nxs n es)) S : Nat))) := itF_k (get_app L2.k) (key_of S) (get_DG (kf := tup) (vf := vf true (nxs n es)) (fun _ _ => tup_inj) hS2)
      rw [eg] at gt
      simp only [N.thn_nx, N.thn_rt, Rs_seq, Rs_set, Rs_ret, Rs_expr, Rs_nil, Rs_if, Rs_asg, Rs_aug, R_call, R_cons, R_nil, R_Var, R_C, R_bin, R_cmp, R_tcmp, R_tOr, R_tAnd, R_tNot, R_tVal, R_tTrue, R_ite, R_eAnd, R_eOr, R_eNot, R_neg, R_tup, R_isi, R_some, Rc_some, N.v_eq, N.v_ne, N.v_lt, N.v_le, N.v_gt, N.v_ge, N.v_add, N.v_sub, N.v_iadd, N.v_xor, N.v_int, N.tru_b, N.pd_d, N.data_nil, N.data_cons, N.len_t, N.v_tupT, N.g_name, N.isNone_n, N.isNone_t, N.isNone_i, N.v_isN, N.v_isNn, N.v_eqB, N.v_neB, List.set_cons_succ, List.set_cons_zero, List.getElem?_cons_succ, List.getElem?_cons_zero, Bool.not_true, Bool.not_false, Bool.false_eq_true, Bool.true_eq_false, eq_self, true_implies, false_implies, true_and, and_true, decide_true, decide_false, Int.zero_add, N.R_sl, N.R_it, R_oNone, R_oSome, wipeN, N.R_lst, N.R_mkF, N.R_mkT, N.R_meth, N.v_addT, Ri_rng1, Ri_rng2, Ri_seq, gt]
      unfold N.ret
      simp only []
      rw [trim_wf (by simp) L2.wf]
      exact R_some.mpr ⟨M2, hM2, rfl, rfl⟩
    rw [Rs_seq, Rs_if]
    simp only [R_tcmp, R_Var, List.getElem?_cons_succ, List.getElem?_cons_zero, R_some, L.inD, Rc_some]
    refine ⟨fun h => ?_, fun h => ?_⟩
    · rw [Rs_seq]
      simp only [N.thn_nx, N.thn_rt, Rs_seq, Rs_set, Rs_ret, Rs_expr, Rs_nil, Rs_if, Rs_asg, Rs_aug, R_call, R_cons, R_nil, R_Var, R_C, R_bin, R_cmp, R_tcmp, R_tOr, R_tAnd, R_tNot, R_tVal, R_tTrue, R_ite, R_eAnd, R_eOr, R_eNot, R_neg, R_tup, R_isi, R_some, Rc_some, N.v_eq, N.v_ne, N.v_lt, N.v_le, N.v_gt, N.v_ge, N.v_add, N.v_sub, N.v_iadd, N.v_xor, N.v_int, N.tru_b, N.pd_d, N.data_nil, N.data_cons, N.len_t, N.v_tupT, N.g_name, N.isNone_n, N.isNone_t, N.isNone_i, N.v_isN, N.v_isNn, N.v_eqB, N.v_neB, List.set_cons_succ, List.set_cons_zero, List.getElem?_cons_succ, List.getElem?_cons_zero, Bool.not_true, Bool.not_false, Bool.false_eq_true, Bool.true_eq_false, eq_self, true_implies, false_implies, true_and, and_true, decide_true, decide_false, Int.zero_add, N.R_sl, N.R_it, R_oNone, R_oSome, wipeN, N.R_lst, N.R_mkF, N.R_mkT, N.R_meth, N.v_addT, Ri_rng1, Ri_rng2, Ri_seq, List.length_nil]
      refine ⟨by unfold lim; omega, ?_⟩
      refine Rs_for es (fun e => .d (pr e)) (fun k e s' => ∃ M2, Mok n M2 ∧ e = [some (.d (gra n es)), some (.d (tup S)), some (.r kk), some (.r s.length), none, none, none] ∧ s' = s.set kk (Mc true (nxs n es) M2) ++ [cR (wor es S (es.take k))]) ?_ (fun k ed e s' hk hi => ?_) (fun e s' hi => ?_)
      · simp only [Rs_nil, R_call, R_cons, R_nil, R_Var, R_C, R_bin, R_cmp, R_tcmp, R_tOr, R_tAnd, R_tNot, R_tVal, R_tTrue, R_ite, R_eAnd, R_eOr, R_eNot, R_neg, R_tup, R_isi, R_some, Rc_some, N.v_eq, N.v_ne, N.v_lt, N.v_le, N.v_gt, N.v_ge, N.v_add, N.v_sub, N.v_iadd, N.v_xor, N.v_int, N.tru_b, N.pd_d, N.data_nil, N.data_cons, N.len_t, N.v_tupT, N.g_name, N.isNone_n, N.isNone_t, N.isNone_i, N.v_isN, N.v_isNn, N.v_eqB, N.v_neB, List.set_cons_succ, List.set_cons_zero, List.getElem?_cons_succ, List.getElem?_cons_zero, Bool.not_true, Bool.not_false, Bool.false_eq_true, Bool.true_eq_false, eq_self, true_implies, false_implies, true_and, and_true, decide_true, decide_false, Int.zero_add, N.R_sl, N.R_it, R_oNone, R_oSome, wipeN, N.R_lst, N.R_mkF, N.R_mkT, N.R_meth, N.v_addT, Ri_rng1, Ri_rng2, Ri_seq, it_snd]
        refine ⟨by rw [List.map_map]; rfl, M, L.ok, ?_⟩
        rw [L.self]
        rfl
      · obtain ⟨M1, hM1, rfl, rfl⟩ := hi
        obtain ⟨hk1, hk2⟩ := List.getElem?_eq_some_iff.mp hk
        have hw : wor es S (es.take (k + 1)) = wor es S (es.take k) ++ (if in2 S ed = true then [g true (adjE es) (rstE S ed)] else []) := by
          unfold wor
          rw [List.take_succ_eq_append_getElem hk1, hk2, List.filter_append, List.map_append]
          congr 1
          rw [List.filter_cons]
          split <;> rfl
        have lw : (wor es S (es.take k)).length ≤ 10000 := by
          unfold wor
          rw [List.length_map]
          have h1 := List.length_filter_le (in2 S) (es.take k)
          have h2 : (es.take k).length ≤ es.length := by rw [List.length_take]; omega
          omega
        generalize wor es S (es.take k) = w at *
        have L1 := L.set hM1
        have hsl : (s.set kk (Mc true (nxs n es) M1)).length = s.length := List.length_set
        generalize hs1 : s.set kk (Mc true (nxs n es) M1) = s1 at *
        have L2 : LM kk n true (nxs n es) M1 (s1 ++ [cR w]) := L1.app (nt w)
        simp only [N.g_tup, N.gs_cons, N.gs_nil, N.gs_len, g_name, List.length_cons, List.length_nil, Nat.reduceAdd, if_true, Rc_some, List.set_cons_succ, List.set_cons_zero]
        have tin : ∀ x : Nat, cIn false (s1 ++ [cR w]) (.d (.int (x : Nat))) (.d (tup S)) = some (decide (x ∈ S)) := fun x => by
          show cIn false _ _ (.d (.tuple (nt S))) = _
          rw [v_inNt, if_neg Bool.false_ne_true]
        rw [Rs_seq, Rs_if]
        have tt : R (tAnd (tCmp (cIn false) (eVar 4) (eVar 1)) (tCmp (cIn false) (eVar 5) (eVar 1)) [some (.d (gra n es)), some (.d (tup S)), some (.r kk), some (.r s.length), some (enI ed.1), some (enI ed.2), none] (s1 ++ [cR w])) fun b s' => b = in2 S ed ∧ s' = s1 ++ [cR w] := by
          simp only [Rs_nil, R_call, R_cons, R_nil, R_Var, R_C, R_bin, R_cmp, R_tcmp, R_tOr, R_tAnd, R_tNot, R_tVal, R_tTrue, R_ite, R_eAnd, R_eOr, R_eNot, R_neg, R_tup, R_isi, R_some, Rc_some, N.v_eq, N.v_ne, N.v_lt, N.v_le, N.v_gt, N.v_ge, N.v_add, N.v_sub, N.v_iadd, N.v_xor, N.v_int, N.tru_b, N.pd_d, N.data_nil, N.data_cons, N.len_t, N.v_tupT, N.g_name, N.isNone_n, N.isNone_t, N.isNone_i, N.v_isN, N.v_isNn, N.v_eqB, N.v_neB, List.set_cons_succ, List.set_cons_zero, List.getElem?_cons_succ, List.getElem?_cons_zero, Bool.not_true, Bool.not_false, Bool.false_eq_true, Bool.true_eq_false, eq_self, true_implies, false_implies, true_and, and_true, decide_true, decide_false, Int.zero_add, N.R_sl, N.R_it, R_oNone, R_oSome, wipeN, N.R_lst, N.R_mkF, N.R_mkT, N.R_meth, N.v_addT, Ri_rng1, Ri_rng2, Ri_seq, tin]
          unfold in2
          exact ⟨fun h => by rw [h]; rfl, fun h => by rw [h]; rfl⟩
        rw [R.eq tt, R_some]
        refine ⟨fun hin => ?_, fun hin => ?_⟩
        · have lT := rstE_lt hin
          have aT : As n (rstE S ed) := a.fil _
          obtain ⟨M3, hM3, e3⟩ := ih (rstE S ed) M1 _ (by omega) aT L2
          rw [List.set_append_left _ _ (by rw [hsl]; exact L.lt), ← hs1, List.set_set] at e3
          rw [hs1] at e3
          have L3 := L.set hM3
          have hs3 : (s.set kk (Mc true (nxs n es) M3)).length = s.length := List.length_set
          generalize hs4 : s.set kk (Mc true (nxs n es) M3) = s3 at *
          have c1 : (s1 ++ [cR w])[s.length]? = some (.lst ((nt w).map .d)) := by rw [← hsl]; exact cR_get
          have c3 : (s3 ++ [cR w])[s.length]? = some (.lst ((nt w).map .d)) := by rw [← hs3]; exact cR_get
          have cs : (s3 ++ [cR w]).set s.length (.lst ((nt w).map .d ++ [enI (g true (adjE es) (rstE S ed))])) = s3 ++ [cR (w ++ [g true (adjE es) (rstE S ed)])] := by rw [← hs3]; exact cR_app
          have er : R (eLc false [6] (iSeq (eVar 1)) (gName 6) (tCmp (cIn true) (eVar 6) (eTup (aCons (eVar 4) (aCons (eVar 5) aNil)))) (eVar 6) [some (.d (gra n es)), some (.d (tup S)), some (.r kk), some (.r s.length), some (enI ed.1), some (enI ed.2), none] (s1 ++ [cR w])) fun d s' => d = .d (.list (nt (rstE S ed))) ∧ s' = s1 ++ [cR w] := by
            refine R_int_filter (l := S) (p := fun o => !decide (o ∈ [ed.1, ed.2])) ?_ (by simp) (by unfold lim; omega) (fun x hx acc => ?_) ⟨rfl, rfl⟩
            · simp only [Rs_nil, R_call, R_cons, R_nil, R_Var, R_C, R_bin, R_cmp, R_tcmp, R_tOr, R_tAnd, R_tNot, R_tVal, R_tTrue, R_ite, R_eAnd, R_eOr, R_eNot, R_neg, R_tup, R_isi, R_some, Rc_some, N.v_eq, N.v_ne, N.v_lt, N.v_le, N.v_gt, N.v_ge, N.v_add, N.v_sub, N.v_iadd, N.v_xor, N.v_int, N.tru_b, N.pd_d, N.data_nil, N.data_cons, N.len_t, N.v_tupT, N.g_name, N.isNone_n, N.isNone_t, N.isNone_i, N.v_isN, N.v_isNn, N.v_eqB, N.v_neB, List.set_cons_succ, List.set_cons_zero, List.getElem?_cons_succ, List.getElem?_cons_zero, Bool.not_true, Bool.not_false, Bool.false_eq_true, Bool.true_eq_false, eq_self, true_implies, false_implies, true_and, and_true, decide_true, decide_false, Int.zero_add, N.R_sl, N.R_it, R_oNone, R_oSome, wipeN, N.R_lst, N.R_mkF, N.R_mkT, N.R_meth, N.v_addT, Ri_rng1, Ri_rng2, Ri_seq, tup]
              exact nt_enI S
            · simp only [Rs_nil, R_call, R_cons, R_nil, R_Var, R_C, R_bin, R_cmp, R_tcmp, R_tOr, R_tAnd, R_tNot, R_tVal, R_tTrue, R_ite, R_eAnd, R_eOr, R_eNot, R_neg, R_tup, R_isi, R_some, Rc_some, N.v_eq, N.v_ne, N.v_lt, N.v_le, N.v_gt, N.v_ge, N.v_add, N.v_sub, N.v_iadd, N.v_xor, N.v_int, N.tru_b, N.pd_d, N.data_nil, N.data_cons, N.len_t, N.v_tupT, N.g_name, N.isNone_n, N.isNone_t, N.isNone_i, N.v_isN, N.v_isNn, N.v_eqB, N.v_neB, List.set_cons_succ, List.set_cons_zero, List.getElem?_cons_succ, List.getElem?_cons_zero, Bool.not_true, Bool.not_false, Bool.false_eq_true, Bool.true_eq_false, eq_self, true_implies, false_implies, true_and, and_true, decide_true, decide_false, Int.zero_add, N.R_sl, N.R_it, R_oNone, R_oSome, wipeN, N.R_lst, N.R_mkF, N.R_mkT, N.R_meth, N.v_addT, Ri_rng1, Ri_rng2, Ri_seq, List.length_cons, List.length_nil]
              refine ⟨by unfold lim; omega, ?_⟩
              rw [show D.d (PyData.tuple [PyData.int (ed.1 : Nat), .int (ed.2 : Nat)]) = .d (.tuple (nt [ed.1, ed.2])) from rfl, v_inNt]
              exact Rc_some.mpr rfl
          have ec := R.eq er
          simp only [N.thn_nx, N.thn_rt, Rs_seq, Rs_set, Rs_ret, Rs_expr, Rs_nil, Rs_if, Rs_asg, Rs_aug, R_call, R_cons, R_nil, R_Var, R_C, R_bin, R_cmp, R_tcmp, R_tOr, R_tAnd, R_tNot, R_tVal, R_tTrue, R_ite, R_eAnd, R_eOr, R_eNot, R_neg, R_tup, R_isi, R_some, Rc_some, N.v_eq, N.v_ne, N.v_lt, N.v_le, N.v_gt, N.v_ge, N.v_add, N.v_sub, N.v_iadd, N.v_xor, N.v_int, N.tru_b, N.pd_d, N.data_nil, N.data_cons, N.len_t, N.v_tupT, N.g_name, N.isNone_n, N.isNone_t, N.isNone_i, N.v_isN, N.v_isNn, N.v_eqB, N.v_neB, List.set_cons_succ, List.set_cons_zero, List.getElem?_cons_succ, List.getElem?_cons_zero, Bool.not_true, Bool.not_false, Bool.false_eq_true, Bool.true_eq_false, eq_self, true_implies, false_implies, true_and, and_true, decide_true, decide_false, Int.zero_add, N.R_sl, N.R_it, R_oNone, R_oSome, wipeN, N.R_lst, N.R_mkF, N.R_mkT, N.R_meth, N.v_addT, Ri_rng1, Ri_rng2, Ri_seq, c1, ec, v_tupL]
          rw [show m__law_edge_value f (s1 ++ [cR w]) [.d (gra n es), .d (.tuple (nt (rstE S ed))), .r kk] = _ from e3, R_some]
          simp only [c3, N.v_app, List.length_map, N.nt_len]
          refine ⟨by unfold lim; omega, ?_⟩
          rw [cs, aft_nx, trimE_len (by simp [hs3, hsl]), hw, if_pos hin]
          exact ⟨M3, hM3, rfl, by rw [hs4]⟩
        · rw [Rs_nil, N.thn_nx, Rs_nil, aft_nx, trimE_len rfl, hw, if_neg (by rw [hin]; exact Bool.false_ne_true), List.append_nil]
          exact ⟨M1, hM1, rfl, by rw [hs1]⟩
      · obtain ⟨M2, hM2, rfl, rfl⟩ := hi
        rw [List.take_length]
        have L2 := L.set hM2
        have L3 : LM kk n true (nxs n es) M2 (s.set kk (Mc true (nxs n es) M2) ++ [cR (wor es S es)]) := L2.app (nt (wor es S es))
        rw [N.thn_nx, Rs_seq, Rs_pu, R_call, R_cons, R_Var]
        simp only [List.getElem?_cons_succ, List.getElem?_cons_zero, R_nil]
        have cw : (s.set kk (Mc true (nxs n es) M2) ++ [cR (wor es S es)])[s.length]? = some (.lst ((nt (wor es S es)).map .d)) := by
          have := cR_get (u := s.set kk (Mc true (nxs n es) M2)) (l := wor es S es)
          rwa [List.length_set] at this
        refine R_lmissD (M := 2 ^ 62) (ns := wor es S es) (fun k => by rw [v_inRn cw, if_neg Bool.false_ne_true]) (fun x hx => ?_) (by decide) (fun q hq => ?_)
        · unfold wor at hx
          obtain ⟨e, he, rfl⟩ := List.mem_map.mp hx
          have h1 := Ky.g_le (nx_nxs G) true (rstE S e)
          rw [eg] at h1
          have h3 : (rstE S e).length ≤ 12 := Nat.le_trans rstE_le (by omega)
          have h2 : (rstE S e).length * (rstE S e).length ≤ 12 * 12 := Nat.mul_le_mul h3 h3
          omega
        · have hq : q = g true (adjN (nxs n es)) S := by
            rw [eg]
            exact Mex.uniq hq (wor_mex G S)
          subst hq
          obtain ⟨M3, h1, h2, h3⟩ := L3.put hn a
          simp only [R_some, R_Var, List.getElem?_cons_succ, List.getElem?_cons_zero, h3, Rc_some, N.thn_nx, Rs_nil]
          rw [List.set_append_left _ _ (by rw [List.length_set]; exact L.lt), List.set_set]
          exact fin M3 _ _ h1 h2
    · rw [Rs_nil, N.thn_nx]
      have : S ∈ M := by simpa using h
      have := fin M none [] L.ok this
      rwa [L.self, List.append_nil] at this
end T78

namespace T78
open PySem L2 PyProof.Rows N
open Ky (Adj adjN Nx As g near behV behE behAt beh)
variable {C : Addr} {n : Nat} {b : Bool} {s rest : Sto} {es : List (Nat × Nat)}
/-- the edges drawn so far -/
structure Dr (n i : Nat) (es : List (Nat × Nat)) : Prop where
  nd : es.Nodup
  fs : ∀ e ∈ es, e.1 < i
  lt : ∀ e ∈ es, e.1 < e.2
  le : ∀ e ∈ es, e.2 < n
structure Dq (n i k : Nat) (r : List (Nat × Nat)) : Prop where
  nd : r.Nodup
  fs : ∀ e ∈ r, e.1 = i
  lt : ∀ e ∈ r, e.1 < e.2
  le : ∀ e ∈ r, e.2 < i + 1 + k
theorem Dq.snoc {i k : Nat} {r : List (Nat × Nat)} (h : Dq n i k r) : Dq n i (k + 1) (r ++ [(i, i + 1 + k)]) := by
  refine ⟨?_, fun e he => ?_, fun e he => ?_, fun e he => ?_⟩
  · rw [List.nodup_append]
    refine ⟨h.nd, by simp, fun x hx y hy exy => ?_⟩
    rw [List.mem_singleton.mp hy] at exy
    have := h.le x hx
    rw [exy] at this
    simp only [] at this
    omega
  all_goals
    rcases List.mem_append.mp he with he | he
    · have h1 := h.fs e he; have h2 := h.lt e he; have h3 := h.le e he; omega
    · rw [List.mem_singleton.mp he]; first | done | (simp only []; done) | (simp only []; omega)
theorem Dq.skip {i k : Nat} {r : List (Nat × Nat)} (h : Dq n i k r) : Dq n i (k + 1) r := ⟨h.nd, h.fs, h.lt, fun e he => by have := h.le e he; omega⟩
theorem Dr.app {i : Nat} {r : List (Nat × Nat)} (h : Dr n i es) (q : Dq n i (n - (i + 1)) r) (hi : i < n) : Dr n (i + 1) (es ++ r) := by
  refine ⟨?_, fun e he => ?_, fun e he => ?_, fun e he => ?_⟩
  · rw [List.nodup_append]
    refine ⟨h.nd, q.nd, fun x hx y hy exy => ?_⟩
    have h1 := h.fs x hx
    have h2 := q.fs y hy
    rw [exy] at h1
    omega
  · rcases List.mem_append.mp he with he | he
    · have := h.fs e he; omega
    · have := q.fs e he; omega
  · rcases List.mem_append.mp he with he | he
    · exact h.lt e he
    · exact q.lt e he
  · rcases List.mem_append.mp he with he | he
    · exact h.le e he
    · have := q.le e he; omega
theorem flat_ok {rows : List (List PyData)} (hl : rows.flatten.length ≤ 10000) (s : Sto) : m__law_flat s [.d (.list (rows.map .list))] = some (.d (.list rows.flatten), s) := by
  apply R.eq
  unfold m__law_flat b__law_flat
  rw [R_fn]
  refine ⟨rfl, ?_⟩
  simp only [List.map_cons, List.map_nil, List.cons_append, List.nil_append, List.length_cons, List.length_nil, Nat.reduceSub, Nat.reduceAdd, List.replicate_succ, List.replicate_zero]
  rw [Rs_seq, Rs_set]
  simp only [Rs_nil, R_call, R_cons, R_nil, R_Var, R_C, R_bin, R_cmp, R_tcmp, R_tOr, R_tAnd, R_tNot, R_tVal, R_tTrue, R_ite, R_eAnd, R_eOr, R_eNot, R_neg, R_tup, R_isi, R_some, Rc_some, N.v_eq, N.v_ne, N.v_lt, N.v_le, N.v_gt, N.v_ge, N.v_add, N.v_sub, N.v_iadd, N.v_xor, N.v_int, N.tru_b, N.pd_d, N.data_nil, N.data_cons, N.len_t, N.v_tupT, N.g_name, N.isNone_n, N.isNone_t, N.isNone_i, N.v_isN, N.v_isNn, N.v_eqB, N.v_neB, List.set_cons_succ, List.set_cons_zero, List.getElem?_cons_succ, List.getElem?_cons_zero, Bool.not_true, Bool.not_false, Bool.false_eq_true, Bool.true_eq_false, eq_self, true_implies, false_implies, true_and, and_true, decide_true, decide_false, Int.zero_add, N.R_sl, N.R_it, R_oNone, R_oSome, wipeN, N.R_lst, N.R_mkF, N.R_mkT, N.R_meth, N.v_addT, Ri_rng1, Ri_rng2, Ri_seq]
  refine ⟨by simp [lim], ?_⟩
  rw [N.thn_nx, Rs_seq]
  refine Rs_for rows (fun r => .d (.list r)) (fun k e s' => s' = s ++ [.lst ((rows.take k).flatten.map .d)] ∧ e = [some (.d (.list (rows.map .list))), some (.r s.length), none]) ?_ (fun k r e s' hk hq => ?_) (fun e s' hq => ?_)
  · rw [Ri_seq]
    simp only [Rs_nil, R_call, R_cons, R_nil, R_Var, R_C, R_bin, R_cmp, R_tcmp, R_tOr, R_tAnd, R_tNot, R_tVal, R_tTrue, R_ite, R_eAnd, R_eOr, R_eNot, R_neg, R_tup, R_isi, R_some, Rc_some, N.v_eq, N.v_ne, N.v_lt, N.v_le, N.v_gt, N.v_ge, N.v_add, N.v_sub, N.v_iadd, N.v_xor, N.v_int, N.tru_b, N.pd_d, N.data_nil, N.data_cons, N.len_t, N.v_tupT, N.g_name, N.isNone_n, N.isNone_t, N.isNone_i, N.v_isN, N.v_isNn, N.v_eqB, N.v_neB, List.set_cons_succ, List.set_cons_zero, List.getElem?_cons_succ, List.getElem?_cons_zero, Bool.not_true, Bool.not_false, Bool.false_eq_true, Bool.true_eq_false, eq_self, true_implies, false_implies, true_and, and_true, decide_true, decide_false, Int.zero_add, N.R_sl, N.R_it, R_oNone, R_oSome, wipeN, N.R_lst, N.R_mkF, N.R_mkT, N.R_meth, N.v_addT, Ri_rng1, Ri_rng2, Ri_seq]
    exact ⟨by rw [List.map_map]; rfl, by simp⟩
  · obtain ⟨rfl, rfl⟩ := hq
    have g0 : (s ++ [Cell.lst ((rows.take k).flatten.map D.d)])[s.length]? = some (.lst ((rows.take k).flatten.map D.d)) := by simp
    have hsum : (rows.take k).flatten.length + r.length ≤ rows.flatten.length := by
      have h1 : rows.flatten = (rows.take k).flatten ++ (rows.drop k).flatten := by rw [← List.flatten_append, List.take_append_drop]
      obtain ⟨hlt, hr⟩ := List.getElem?_eq_some_iff.mp hk
      rw [h1, List.length_append, List.drop_eq_getElem_cons hlt, List.flatten_cons, List.length_append, hr]
      omega
    rw [g_name, Rc_some, Rs_seq, Rs_expr]
    simp only [Rs_nil, R_call, R_cons, R_nil, R_Var, R_C, R_bin, R_cmp, R_tcmp, R_tOr, R_tAnd, R_tNot, R_tVal, R_tTrue, R_ite, R_eAnd, R_eOr, R_eNot, R_neg, R_tup, R_isi, R_some, Rc_some, N.v_eq, N.v_ne, N.v_lt, N.v_le, N.v_gt, N.v_ge, N.v_add, N.v_sub, N.v_iadd, N.v_xor, N.v_int, N.tru_b, N.pd_d, N.data_nil, N.data_cons, N.len_t, N.v_tupT, N.g_name, N.isNone_n, N.isNone_t, N.isNone_i, N.v_isN, N.v_isNn, N.v_eqB, N.v_neB, List.set_cons_succ, List.set_cons_zero, List.getElem?_cons_succ, List.getElem?_cons_zero, Bool.not_true, Bool.not_false, Bool.false_eq_true, Bool.true_eq_false, eq_self, true_implies, false_implies, true_and, and_true, decide_true, decide_false, Int.zero_add, N.R_sl, N.R_it, R_oNone, R_oSome, wipeN, N.R_lst, N.R_mkF, N.R_mkT, N.R_meth, N.v_addT, Ri_rng1, Ri_rng2, Ri_seq, g0, v_extL]
    refine ⟨by rw [List.length_map]; simp only [lim]; omega, ?_⟩
    rw [N.set_last, N.thn_nx, Rs_nil, aft_nx, trimE_len (by simp)]
    refine ⟨?_, by simp [wipeN]⟩
    rw [List.take_add_one, hk, List.flatten_append, List.map_append]
    simp
  · obtain ⟨rfl, rfl⟩ := hq
    rw [List.take_length, N.thn_nx, Rs_seq, Rs_ret]
    simp only [Rs_nil, R_call, R_cons, R_nil, R_Var, R_C, R_bin, R_cmp, R_tcmp, R_tOr, R_tAnd, R_tNot, R_tVal, R_tTrue, R_ite, R_eAnd, R_eOr, R_eNot, R_neg, R_tup, R_isi, R_some, Rc_some, N.v_eq, N.v_ne, N.v_lt, N.v_le, N.v_gt, N.v_ge, N.v_add, N.v_sub, N.v_iadd, N.v_xor, N.v_int, N.tru_b, N.pd_d, N.data_nil, N.data_cons, N.len_t, N.v_tupT, N.g_name, N.isNone_n, N.isNone_t, N.isNone_i, N.v_isN, N.v_isNn, N.v_eqB, N.v_neB, List.set_cons_succ, List.set_cons_zero, List.getElem?_cons_succ, List.getElem?_cons_zero, Bool.not_true, Bool.not_false, Bool.false_eq_true, Bool.true_eq_false, eq_self, true_implies, false_implies, true_and, and_true, decide_true, decide_false, Int.zero_add, N.R_sl, N.R_it, R_oNone, R_oSome, wipeN, N.R_lst, N.R_mkF, N.R_mkT, N.R_meth, N.v_addT, Ri_rng1, Ri_rng2, Ri_seq]
    rw [N.thn_rt]
    unfold N.ret
    simp only [Nat.lt_irrefl, if_neg Bool.false_ne_true, if_false, List.getElem?_append_right (Nat.le_refl s.length), Nat.sub_self, List.getElem?_cons_zero, data_map, R_some]
    refine ⟨trivial, ?_⟩
    rw [N.set_last]
    simp [trim, N.safe_app]
theorem R_graph {m part : Nat} (t : BS rest s) (f : Flat rest) (hm : 0 < m) (hm2 : m ≤ 12) {Q : D → Sto → Prop} (q : ∀ n es s', 0 < n → n ≤ m → Gr n es → BS rest s' → Q (.d (gra n es)) s') : R (m__law_graph s [.r 1, .d (.int (m : Nat)), .d (.int (part : Nat))]) Q := by
  unfold m__law_graph b__law_graph
  rw [R_fn]
  refine ⟨rfl, ?_⟩
  simp only [List.map_cons, List.map_nil, List.cons_append, List.nil_append, List.length_cons, List.length_nil, Nat.reduceSub, Nat.reduceAdd, List.replicate_succ, List.replicate_zero]
  rw [Rs_seq, Rs_set]
  simp only [Rs_nil, R_call, R_cons, R_nil, R_Var, R_C, R_bin, R_cmp, R_tcmp, R_tOr, R_tAnd, R_tNot, R_tVal, R_tTrue, R_ite, R_eAnd, R_eOr, R_eNot, R_neg, R_tup, R_isi, R_some, Rc_some, N.v_eq, N.v_ne, N.v_lt, N.v_le, N.v_gt, N.v_ge, N.v_add, N.v_sub, N.v_iadd, N.v_xor, N.v_int, N.tru_b, N.pd_d, N.data_nil, N.data_cons, N.len_t, N.v_tupT, N.g_name, N.isNone_n, N.isNone_t, N.isNone_i, N.v_isN, N.v_isNn, N.v_eqB, N.v_neB, List.set_cons_succ, List.set_cons_zero, List.getElem?_cons_succ, List.getElem?_cons_zero, Bool.not_true, Bool.not_false, Bool.false_eq_true, Bool.true_eq_false, eq_self, true_implies, false_implies, true_and, and_true, decide_true, decide_false, Int.zero_add, N.R_sl, N.R_it, R_oNone, R_oSome, wipeN, N.R_lst, N.R_mkF, N.R_mkT, N.R_meth, N.v_addT, Ri_rng1, Ri_rng2, Ri_seq]
  refine R_draw t (m := m) hm (Nat.lt_of_le_of_lt hm2 (by decide)) fun d s1 hd t1 => ?_
  simp only [Rs_nil, R_call, R_cons, R_nil, R_Var, R_C, R_bin, R_cmp, R_tcmp, R_tOr, R_tAnd, R_tNot, R_tVal, R_tTrue, R_ite, R_eAnd, R_eOr, R_eNot, R_neg, R_tup, R_isi, R_some, Rc_some, N.v_eq, N.v_ne, N.v_lt, N.v_le, N.v_gt, N.v_ge, N.v_add, N.v_sub, N.v_iadd, N.v_xor, N.v_int, N.tru_b, N.pd_d, N.data_nil, N.data_cons, N.len_t, N.v_tupT, N.g_name, N.isNone_n, N.isNone_t, N.isNone_i, N.v_isN, N.v_isNn, N.v_eqB, N.v_neB, List.set_cons_succ, List.set_cons_zero, List.getElem?_cons_succ, List.getElem?_cons_zero, Bool.not_true, Bool.not_false, Bool.false_eq_true, Bool.true_eq_false, eq_self, true_implies, false_implies, true_and, and_true, decide_true, decide_false, Int.zero_add, N.R_sl, N.R_it, R_oNone, R_oSome, wipeN, N.R_lst, N.R_mkF, N.R_mkT, N.R_meth, N.v_addT, Ri_rng1, Ri_rng2, Ri_seq]
  rw [show (1 : Int) + ((d : Nat) : Int) = ((1 + d : Nat) : Int) by omega]
  have k30 : 1 + d ≤ m := by omega
  have k0 : 0 < 1 + d := by omega
  generalize 1 + d = n at k30 k0
  rw [N.thn_nx, Rs_seq, Rs_ret, R_tup]
  simp only [R_cons, R_nil, R_call, R_Var, List.getElem?_cons_succ, List.getElem?_cons_zero]
  refine R_lcI (List.range n) enI s1.length (fun i acc s' => BS rest s' ∧ ∃ rows : List (List (Nat × Nat)), acc = rows.map (fun r => .list (r.map pr)) ∧ Dr n i rows.flatten) ?_ (fun i acc s' hi => ?_) (fun i x acc s' hk hi => ?_) (by rw [List.length_range]; unfold lim; omega) (fun acc s' hi => ?_)
  · simp only [Rs_nil, R_call, R_cons, R_nil, R_Var, R_C, R_bin, R_cmp, R_tcmp, R_tOr, R_tAnd, R_tNot, R_tVal, R_tTrue, R_ite, R_eAnd, R_eOr, R_eNot, R_neg, R_tup, R_isi, R_some, Rc_some, N.v_eq, N.v_ne, N.v_lt, N.v_le, N.v_gt, N.v_ge, N.v_add, N.v_sub, N.v_iadd, N.v_xor, N.v_int, N.tru_b, N.pd_d, N.data_nil, N.data_cons, N.len_t, N.v_tupT, N.g_name, N.isNone_n, N.isNone_t, N.isNone_i, N.v_isN, N.v_isNn, N.v_eqB, N.v_neB, List.set_cons_succ, List.set_cons_zero, List.getElem?_cons_succ, List.getElem?_cons_zero, Bool.not_true, Bool.not_false, Bool.false_eq_true, Bool.true_eq_false, eq_self, true_implies, false_implies, true_and, and_true, decide_true, decide_false, Int.zero_add, N.R_sl, N.R_it, R_oNone, R_oSome, wipeN, N.R_lst, N.R_mkF, N.R_mkT, N.R_meth, N.v_addT, Ri_rng1, Ri_rng2, Ri_seq]
    exact ⟨by omega, rng0' rfl, t1, [], rfl, by simp, by simp, by simp, by simp⟩
  · exact ⟨by rw [hi.1.len, t1.len], hi.1.wf f⟩
  · obtain ⟨t2, rows, rfl, hD⟩ := hi
    obtain ⟨hk1, hk2⟩ := List.getElem?_eq_some_iff.mp hk
    have hx : x = i := by simpa using hk2.symm
    subst hx
    have hx : x < n := by simpa using hk1
    rw [g_name, Rc_some]
    simp only [R_tTrue, wipeN, List.set_cons_succ, List.set_cons_zero]
    refine ⟨fun h => (by cases h), fun _ => ?_⟩
    have fO : Flat (rest ++ [Cell.lst ((rows.map (fun r => PyData.list (r.map pr))).map D.d)]) := flat_app f (flat_lst _)
    have tO : BS (rest ++ [Cell.lst ((rows.map (fun r => PyData.list (r.map pr))).map D.d)]) (s' ++ [Cell.lst ((rows.map (fun r => PyData.list (r.map pr))).map D.d)]) := t2.app _
    generalize hO : [Cell.lst ((rows.map (fun r => PyData.list (r.map pr))).map D.d)] = O at fO tO ⊢
    refine R_lcI (List.range (n - (x + 1))) (fun k => .d (.int ((x + 1 + k : Nat) : Int))) (s' ++ O).length (fun k acc s'' => BS (rest ++ O) s'' ∧ ∃ r : List (Nat × Nat), acc = r.map pr ∧ Dq n x k r) ?_ (fun k acc s'' hi => ?_) (fun k y acc s'' hk' hi => ?_) (by rw [List.length_range]; unfold lim; omega) (fun acc s'' hi => ?_)
    · simp only [Rs_nil, R_call, R_cons, R_nil, R_Var, R_C, R_bin, R_cmp, R_tcmp, R_tOr, R_tAnd, R_tNot, R_tVal, R_tTrue, R_ite, R_eAnd, R_eOr, R_eNot, R_neg, R_tup, R_isi, R_some, Rc_some, N.v_eq, N.v_ne, N.v_lt, N.v_le, N.v_gt, N.v_ge, N.v_add, N.v_sub, N.v_iadd, N.v_xor, N.v_int, N.tru_b, N.pd_d, N.data_nil, N.data_cons, N.len_t, N.v_tupT, N.g_name, N.isNone_n, N.isNone_t, N.isNone_i, N.v_isN, N.v_isNn, N.v_eqB, N.v_neB, List.set_cons_succ, List.set_cons_zero, List.getElem?_cons_succ, List.getElem?_cons_zero, Bool.not_true, Bool.not_false, Bool.false_eq_true, Bool.true_eq_false, eq_self, true_implies, false_implies, true_and, and_true, decide_true, decide_false, Int.zero_add, N.R_sl, N.R_it, R_oNone, R_oSome, wipeN, N.R_lst, N.R_mkF, N.R_mkT, N.R_meth, N.v_addT, Ri_rng1, Ri_rng2, Ri_seq]
      refine ⟨by omega, ?_, tO, [], rfl, by simp, by simp, by simp, by simp⟩
      unfold rngD
      rw [show (((n : Nat) : Int) - ((x : Nat) + 1)).toNat = n - (x + 1) by omega]
      refine List.map_congr_left fun k _ => ?_
      congr 2
    · exact ⟨by rw [hi.1.len, tO.len], hi.1.wf fO⟩
    · obtain ⟨t3, r, rfl, hq⟩ := hi
      obtain ⟨hy1, hy2⟩ := List.getElem?_eq_some_iff.mp hk'
      have hy : y = k := by simpa using hy2.symm
      subst hy
      rw [g_name, Rc_some]
      simp only [wipeN, List.set_cons_succ, List.set_cons_zero]
      simp only [Rs_nil, R_call, R_cons, R_nil, R_Var, R_C, R_bin, R_cmp, R_tcmp, R_tOr, R_tAnd, R_tNot, R_tVal, R_tTrue, R_ite, R_eAnd, R_eOr, R_eNot, R_neg, R_tup, R_isi, R_some, Rc_some, N.v_eq, N.v_ne, N.v_lt, N.v_le, N.v_gt, N.v_ge, N.v_add, N.v_sub, N.v_iadd, N.v_xor, N.v_int, N.tru_b, N.pd_d, N.data_nil, N.data_cons, N.len_t, N.v_tupT, N.g_name, N.isNone_n, N.isNone_t, N.isNone_i, N.v_isN, N.v_isNn, N.v_eqB, N.v_neB, List.set_cons_succ, List.set_cons_zero, List.getElem?_cons_succ, List.getElem?_cons_zero, Bool.not_true, Bool.not_false, Bool.false_eq_true, Bool.true_eq_false, eq_self, true_implies, false_implies, true_and, and_true, decide_true, decide_false, Int.zero_add, N.R_sl, N.R_it, R_oNone, R_oSome, wipeN, N.R_lst, N.R_mkF, N.R_mkT, N.R_meth, N.v_addT, Ri_rng1, Ri_rng2, Ri_seq]
      refine R_draw (t3.app [Cell.lst ((r.map pr).map D.d)]) (m := 6) (by decide) (by decide) fun c s8 hc t8 => ?_
      obtain ⟨s9, rfl, t9⟩ := BS.unapp (g := [Cell.lst ((r.map pr).map D.d)]) t8
      simp only [Rs_nil, R_call, R_cons, R_nil, R_Var, R_C, R_bin, R_cmp, R_tcmp, R_tOr, R_tAnd, R_tNot, R_tVal, R_tTrue, R_ite, R_eAnd, R_eOr, R_eNot, R_neg, R_tup, R_isi, R_some, Rc_some, N.v_eq, N.v_ne, N.v_lt, N.v_le, N.v_gt, N.v_ge, N.v_add, N.v_sub, N.v_iadd, N.v_xor, N.v_int, N.tru_b, N.pd_d, N.data_nil, N.data_cons, N.len_t, N.v_tupT, N.g_name, N.isNone_n, N.isNone_t, N.isNone_i, N.v_isN, N.v_isNn, N.v_eqB, N.v_neB, List.set_cons_succ, List.set_cons_zero, List.getElem?_cons_succ, List.getElem?_cons_zero, Bool.not_true, Bool.not_false, Bool.false_eq_true, Bool.true_eq_false, eq_self, true_implies, false_implies, true_and, and_true, decide_true, decide_false, Int.zero_add, N.R_sl, N.R_it, R_oNone, R_oSome, wipeN, N.R_lst, N.R_mkF, N.R_mkT, N.R_meth, N.v_addT, Ri_rng1, Ri_rng2, Ri_seq]
      refine ⟨fun _ => ⟨s9, rfl, t9, r, rfl, hq.skip⟩, fun _ => ?_⟩
      simp only [List.length_cons, List.length_nil]
      refine ⟨by unfold lim; omega, _, s9, rfl, rfl, t9, r ++ [(x, x + 1 + y)], ?_, hq.snoc⟩
      simp
    · obtain ⟨t3, r, rfl, hq⟩ := hi
      subst hO
      obtain ⟨s9, rfl, t9⟩ := BS.unapp t3
      rw [List.length_range] at hq
      refine ⟨_, s9, rfl, rfl, t9, rows ++ [r], by simp, ?_⟩
      rw [List.flatten_append]
      have := hD.app hq hx
      simpa using this
  · obtain ⟨t2, rows, rfl, hD⟩ := hi
    rw [List.length_range] at hD
    have G : Gr n rows.flatten := ⟨hD.nd, hD.lt, hD.le⟩
    have hl := G.len2 (show n ≤ 12 by omega)
    have ef := flat_ok (rows := rows.map fun r => r.map pr) (by rw [← List.map_flatten, List.length_map]; exact hl) s'
    rw [List.map_map] at ef
    rw [show m__law_flat s' [.d (.list (rows.map fun r => PyData.list (r.map pr)))] = _ from ef, R_some]
    simp only [v_tupL, R_some, N.data_cons, N.data_nil, Rc_some, List.length_cons, List.length_nil, N.thn_rt]
    refine ⟨by unfold lim; omega, ?_⟩
    unfold N.ret
    simp only []
    rw [trim_wf' (by rw [t2.len, t.len]) (t2.wf f), ← List.map_flatten]
    exact R_some.mpr (q n _ s' k0 k30 G t2)
end T78

namespace T78
open PySem L2 PyProof.Rows N
open Ky (Adj adjN Nx As g near behV behE behAt beh adjL mex)
variable {C : Addr} {n : Nat} {b : Bool} {s rest : Sto} {es : List (Nat × Nat)}
def st1 (l : List Nat) (n : Nat) : List Nat := (List.range n).map fun k => l.getD (k - 1) 0 ^^^ l.getD (n - (k + 2)) 0
def st2 (l : List Nat) (n : Nat) : List Nat := (List.range (n - 1)).map fun k => l.getD k 0 ^^^ l.getD (n - 2 - k) 0
def lf1 : Nat → List Nat
  | 0 => [0]
  | n + 1 => lf1 n ++ [mex (st1 (lf1 n) (n + 1))]
def lf2 : Nat → List Nat
  | 0 => [0]
  | n + 1 => lf2 n ++ [mex (st2 (lf2 n) (n + 1))]
theorem lf1_12 : lf1 12 = valsC [1, 3, 7] 13 := by decide +kernel
theorem lf2_12 : lf2 12 = valsC [0, 7] 13 := by decide +kernel
theorem getR {f : Nat → Nat} {n k : Nat} (h : k < n) : ((List.range n).map f).getD k 0 = f k := by
  rw [List.getD_eq_getElem?_getD, List.getElem?_map, List.getElem?_range h]
  rfl
theorem lf1_eq : ∀ n, lf1 n = (List.range (n + 1)).map fun k => g false adjL (List.range k)
  | 0 => by
    show [0] = [g false adjL (List.range 0)]
    rw [List.range_zero, Ky.g_nil]
  | n + 1 => by
    unfold lf1
    rw [lf1_eq n, List.range_succ (n := n + 1), List.map_append, List.map_singleton, Ky.line_first (n + 1)]
    congr 3
    unfold st1
    refine List.map_congr_left fun k hk => ?_
    have hk := List.mem_range.mp hk
    rw [getR (by omega), getR (by omega)]
theorem lf2_eq : ∀ n, lf2 n = (List.range (n + 1)).map fun k => g true adjL (List.range k)
  | 0 => by
    show [0] = [g true adjL (List.range 0)]
    rw [List.range_zero, Ky.g_nil]
  | n + 1 => by
    unfold lf2
    rw [lf2_eq n, List.range_succ (n := n + 1), List.map_append, List.map_singleton, Ky.line_second (n + 1)]
    congr 3
    unfold st2
    refine List.map_congr_left fun k hk => ?_
    have hk := List.mem_range.mp hk
    rw [getR (by omega), getR (by omega)]
def lineE (n : Nat) : List (Nat × Nat) := (List.range (n - 1)).map fun k => (k, k + 1)
theorem line_gr (n : Nat) : Gr n (lineE n) := by
  refine ⟨?_, fun e he => ?_, fun e he => ?_⟩
  · unfold lineE
    rw [List.nodup_iff_pairwise_ne, List.pairwise_map]
    exact List.nodup_range.imp fun h e => h (congrArg Prod.fst e)
  · obtain ⟨k, _, rfl⟩ := List.mem_map.mp he
    simp
  · obtain ⟨k, hk, rfl⟩ := List.mem_map.mp he
    have := List.mem_range.mp hk
    simp only []
    omega
theorem mem_line {n u v : Nat} : (u, v) ∈ lineE n ↔ u + 1 = v ∧ v < n := by
  unfold lineE
  rw [List.mem_map]
  constructor
  · rintro ⟨k, hk, e⟩
    have := List.mem_range.mp hk
    cases e
    omega
  · rintro ⟨rfl, h⟩
    exact ⟨u, List.mem_range.mpr (by omega), rfl⟩
theorem line_adj {n u v : Nat} (hu : u < n) (hv : v < n) : adjL u v = adjE (lineE n) u v := by
  unfold adjL adjE
  rw [Bool.eq_iff_iff]
  simp only [Bool.or_eq_true, decide_eq_true_eq, mem_line]
  omega
theorem line_val (b : Bool) (n : Nat) : g b (adjE (lineE n)) (List.range n) = g b adjL (List.range n) := by
  have := Ky.g_map b (adj := adjL) (adj' := adjE (lineE n)) (f := id) _ (List.range n) (Nat.lt_succ_self _) ⟨fun u _ v _ => Iff.rfl, fun u hu v hv => (line_adj (List.mem_range.mp hu) (List.mem_range.mp hv)).symm⟩
  rwa [List.map_id] at this
def mvE (m : Nat) (es : List (Nat × Nat)) : List (Nat × Nat) := es.map fun e => (e.1 + m, e.2 + m)
theorem mem_mv {m u v : Nat} : (u, v) ∈ mvE m es ↔ ∃ a c, (a, c) ∈ es ∧ a + m = u ∧ c + m = v := by
  unfold mvE
  rw [List.mem_map]
  constructor
  · rintro ⟨⟨a, c⟩, h, e⟩
    cases e
    exact ⟨a, c, h, rfl, rfl⟩
  · rintro ⟨a, c, h, rfl, rfl⟩
    exact ⟨(a, c), h, rfl⟩
/-- two graphs side by side, edges in any order -/
theorem side_gr {m n : Nat} {A B E : List (Nat × Nat)} (GA : Gr m A) (GB : Gr n B) (nd : E.Nodup) (hE : ∀ e, e ∈ E ↔ e ∈ A ∨ e ∈ mvE m B) : Gr (m + n) E := by
  refine ⟨nd, fun e he => ?_, fun e he => ?_⟩
  · rcases (hE e).mp he with h | h
    · exact GA.lt e h
    · obtain ⟨a, c, h, h1, h2⟩ := mem_mv.mp h
      have := GB.lt _ h
      simp only [] at this
      omega
  · rcases (hE e).mp he with h | h
    · have := GA.le e h; omega
    · obtain ⟨a, c, h, h1, h2⟩ := mem_mv.mp h
      have := GB.le _ h
      simp only [] at this
      omega
theorem side_val (b : Bool) {m n : Nat} {A B E : List (Nat × Nat)} (GA : Gr m A) (GB : Gr n B) (hE : ∀ e, e ∈ E ↔ e ∈ A ∨ e ∈ mvE m B) : g b (adjE E) (List.range (m + n)) = g b (adjE A) (List.range m) ^^^ g b (adjE B) (List.range n) := by
  have noA : ∀ u v, m ≤ u ∨ m ≤ v → (u, v) ∉ A := fun u v h hm => by
    have h1 := GA.lt _ hm; have h2 := GA.le _ hm; simp only [] at h1 h2; omega
  have noB : ∀ u v, u < m ∨ v < m → (u, v) ∉ mvE m B := fun u v h hm => by
    obtain ⟨a, c, h, h1, h2⟩ := mem_mv.mp hm; omega
  have sB : ∀ u v, (u + m, v + m) ∈ mvE m B ↔ (u, v) ∈ B := fun u v => by
    rw [mem_mv]
    constructor
    · rintro ⟨a, c, h, h1, h2⟩
      rwa [show u = a by omega, show v = c by omega]
    · intro h
      exact ⟨u, v, h, rfl, rfl⟩
  refine Ky.g_side b (fun u hu v hv => ?_) (fun u hu v hv => ?_) (fun u hu v hv => ?_)
  · unfold adjE
    rw [Bool.eq_iff_iff]
    simp only [Bool.or_eq_true, decide_eq_true_eq, hE, noB u v (.inl hu), noB v u (.inl hv), or_false]
  · unfold adjE
    rw [Bool.eq_iff_iff]
    simp only [Bool.or_eq_true, decide_eq_true_eq, hE, sB, noA (u + m) (v + m) (.inl (by omega)), noA (v + m) (u + m) (.inl (by omega)), false_or]
  · unfold adjE
    simp only [hE, noA u v (.inr hv), noA v u (.inl hv), noB u v (.inl hu), noB v u (.inr hu), or_self, decide_false, Bool.or_self, and_self]
/-- two like halves -/
def brg (n turn : Nat) (i j : Nat) : Bool := decide (i ≠ j) && decide ((min i j + 2 * max i j + turn) / 3 * 3 = min i j + 2 * max i j + turn)
structure Half (n turn : Nat) (A E : List (Nat × Nat)) : Prop where
  nd : E.Nodup
  mem : ∀ u v, (u, v) ∈ E ↔ (u, v) ∈ A ∨ (u, v) ∈ mvE n A ∨ ∃ i j, i < n ∧ j < n ∧ brg n turn i j = true ∧ u = i ∧ v = n + j
theorem half_gr {n turn : Nat} {A E : List (Nat × Nat)} (G : Gr n A) (h : Half n turn A E) : Gr (2 * n) E := by
  refine ⟨h.nd, fun e he => ?_, fun e he => ?_⟩
  · obtain ⟨u, v⟩ := e
    rcases (h.mem u v).mp he with h | h | ⟨i, j, h1, h2, _, rfl, rfl⟩
    · exact G.lt _ h
    · obtain ⟨a, c, h, h1, h2⟩ := mem_mv.mp h
      have := G.lt _ h
      simp only [] at this ⊢
      omega
    · simp only []; omega
  · obtain ⟨u, v⟩ := e
    rcases (h.mem u v).mp he with h | h | ⟨i, j, h1, h2, _, rfl, rfl⟩
    · have := G.le _ h; simp only [] at this ⊢; omega
    · obtain ⟨a, c, h, h1, h2⟩ := mem_mv.mp h
      have := G.le _ h
      simp only [] at this ⊢
      omega
    · simp only []; omega
def swp (n u : Nat) : Nat := if u < n then u + n else u - n
theorem brg_sym {n t i j : Nat} : brg n t i j = brg n t j i := by
  unfold brg
  rw [Nat.min_comm i j, Nat.max_comm i j, decide_eq_decide.mpr (show i ≠ j ↔ j ≠ i from ⟨Ne.symm, Ne.symm⟩)]
end T78

namespace T78
open PySem L2 PyProof.Rows N
open Ky (Adj adjN Nx As g near behV behE behAt beh adjL mex)
variable {C : Addr} {n t : Nat} {b : Bool} {s rest : Sto} {A E : List (Nat × Nat)}
theorem adjE_sym {es : List (Nat × Nat)} (u v : Nat) : adjE es u v = adjE es v u := by
  unfold adjE
  rw [Bool.or_comm]
theorem half_low (G : Gr n A) (h : Half n t A E) {u v : Nat} (hu : u < n) (hv : v < n) : (u, v) ∈ E ↔ (u, v) ∈ A := by
  rw [h.mem]
  constructor
  · rintro (h | h | ⟨i, j, h1, h2, _, h4, h5⟩)
    · exact h
    · obtain ⟨a, c, _, h1, h2⟩ := mem_mv.mp h; omega
    · omega
  · exact .inl
theorem half_up (G : Gr n A) (h : Half n t A E) {u v : Nat} (hu : u < n) (hv : v < n) : (u + n, v + n) ∈ E ↔ (u, v) ∈ A := by
  rw [h.mem]
  constructor
  · rintro (h | h | ⟨i, j, h1, h2, _, h4, h5⟩)
    · have h1 := G.lt _ h; have h2 := G.le _ h; simp only [] at h1 h2; omega
    · obtain ⟨a, c, h, h1, h2⟩ := mem_mv.mp h
      rwa [show u = a by omega, show v = c by omega]
    · omega
  · exact fun h => .inr (.inl (mem_mv.mpr ⟨u, v, h, rfl, rfl⟩))
theorem half_br (G : Gr n A) (h : Half n t A E) {u v : Nat} (hu : u < n) (hv : v < n) : adjE E u (v + n) = brg n t u v := by
  have h1 : (v + n, u) ∉ E := fun hm => by
    have := (half_gr G h).lt _ hm
    simp only [] at this
    omega
  unfold adjE
  rw [Bool.eq_iff_iff, Bool.or_eq_true, decide_eq_true_eq, decide_eq_true_eq, h.mem u (v + n)]
  constructor
  · rintro ((h | h | ⟨i, j, h1, h2, h3, h4, h5⟩) | h)
    · have h1 := G.lt _ h; have h2 := G.le _ h; simp only [] at h1 h2; omega
    · obtain ⟨a, c, h, h1, h2⟩ := mem_mv.mp h; omega
    · rw [show u = i by omega, show v = j by omega]; exact h3
    · exact (h1 h).elim
  · intro hb
    exact .inl (.inr (.inr ⟨u, v, hu, hv, hb, rfl, by omega⟩))
theorem half_zero (G : Gr n A) (h0 : 0 < n) (h : Half n t A E) : g false (adjE E) (List.range (2 * n)) = 0 := by
  have sl : ∀ u, u < n → swp n u = u + n := fun u hu => by unfold swp; rw [if_pos hu]
  have su : ∀ u, swp n (u + n) = u := fun u => by unfold swp; rw [if_neg (by omega)]; omega
  have cs : ∀ u ∈ List.range (2 * n), u < n ∨ ∃ a, a < n ∧ u = a + n := fun u hu => by
    have := List.mem_range.mp hu
    rcases Nat.lt_or_ge u n with h | h
    · exact .inl h
    · exact .inr ⟨u - n, by omega, by omega⟩
  have lo : ∀ u v, u < n → v < n → adjE E (u + n) (v + n) = adjE E u v := fun u v hu hv => by
    unfold adjE
    rw [Bool.eq_iff_iff]
    simp only [Bool.or_eq_true, decide_eq_true_eq, half_up G h hu hv, half_up G h hv hu, half_low G h hu hv, half_low G h hv hu]
  have b0 : ∀ u, brg n t u u = false := fun u => by unfold brg; simp
  refine Ky.like_zero (τ := swp n) _ (List.range (2 * n)) (Nat.lt_succ_self _) ⟨fun u hu => ?_, fun u hu => ?_, fun u hu => ?_, fun u hu => ?_, fun u hu v hv => ?_⟩
  · rcases cs u hu with h | ⟨a, h, rfl⟩
    · rw [sl u h]; exact List.mem_range.mpr (by omega)
    · rw [su]; exact List.mem_range.mpr (by omega)
  · rcases cs u hu with h | ⟨a, h, rfl⟩
    · rw [sl u h, su]
    · rw [su, sl a h]
  · rcases cs u hu with h | ⟨a, h, rfl⟩
    · rw [sl u h]; omega
    · rw [su]; omega
  · rcases cs u hu with h1 | ⟨a, h1, rfl⟩
    · rw [sl u h1, half_br G h h1 h1, b0]
    · rw [su, adjE_sym, half_br G h h1 h1, b0]
  · rcases cs u hu with h1 | ⟨a, h1, rfl⟩ <;> rcases cs v hv with h2 | ⟨c, h2, rfl⟩
    · rw [sl u h1, sl v h2, lo u v h1 h2]
    · rw [sl u h1, su, adjE_sym, half_br G h h2 h1, half_br G h h1 h2, brg_sym]
    · rw [su, sl v h2, half_br G h h1 h2, adjE_sym, half_br G h h2 h1, brg_sym]
    · rw [su, su, lo a c h1 h2]
theorem half_none (G : Gr n A) (h0 : 0 < n) (h : Half n t A E) : (List.range (2 * n)).filter (winV E (List.range (2 * n))) = [] := by
  refine List.filter_eq_nil_iff.mpr fun v hv => ?_
  unfold winV
  rw [decide_eq_true_eq]
  exact Ky.none_zero (half_zero G h0 h) (Ky.mem_optsV.mpr ⟨v, hv, rfl⟩)
theorem mx0 (k : Nat) : mx2 0 ((k : Int) - 1) = ((k - 1 : Nat) : Int) := by
  unfold mx2
  split <;> omega
theorem mx1 {n k : Nat} (h : k < n) : mx2 0 ((n : Int) - (k : Int) - 2) = ((n - (k + 2) : Nat) : Int) := by
  unfold mx2
  split <;> omega
theorem it_cR {s : Sto} {j k : Nat} {l : List Nat} (h : s[j]? = some (cR l)) (hk : k < l.length) : itF s (.r j) (.d (.int (k : Nat))) = some (.d (.int (l.getD k 0 : Nat))) := itF_l h (N.atI_nat (by
  rw [List.getElem?_map, N.nt_get hk]
  rfl))
theorem lf1_len : ∀ n, (lf1 n).length = n + 1 := fun n => by rw [lf1_eq]; simp
theorem lf2_len : ∀ n, (lf2 n).length = n + 1 := fun n => by rw [lf2_eq]; simp
theorem cR_app2 {u w : Sto} {l : List Nat} {x : Nat} : (u ++ cR l :: w).set u.length (.lst ((nt l).map .d ++ [enI x])) = u ++ cR (l ++ [x]) :: w := by
  rw [List.set_append_right _ _ (Nat.le_refl _), Nat.sub_self]
  unfold cR nt
  simp
end T78

namespace T78
open PySem L2 PyProof.Rows N
open Ky (Adj adjN Nx As g near behV behE behAt beh adjL mex)
variable {C : Addr} {n t : Nat} {b : Bool} {s rest : Sto} {A E : List (Nat × Nat)}
theorem lf1_small : ∀ i < 13, ∀ x ∈ lf1 i, x < 16 := by decide +kernel
theorem lf2_small : ∀ i < 13, ∀ x ∈ lf2 i, x < 16 := by decide +kernel
theorem getD_small {l : List Nat} (h : ∀ x ∈ l, x < 16) (k : Nat) : l.getD k 0 < 16 := by
  rw [List.getD_eq_getElem?_getD]
  rcases h2 : l[k]? with _ | x
  · simp
  · exact h x (List.mem_of_getElem? h2)
theorem st1_small {l : List Nat} (h : ∀ x ∈ l, x < 16) (n : Nat) : ∀ x ∈ st1 l n, x < 16 := fun x hx => by
  obtain ⟨k, _, rfl⟩ := List.mem_map.mp hx
  exact Nat.xor_lt_two_pow (n := 4) (getD_small h _) (getD_small h _)
theorem st2_small {l : List Nat} (h : ∀ x ∈ l, x < 16) (n : Nat) : ∀ x ∈ st2 l n, x < 16 := fun x hx => by
  obtain ⟨k, _, rfl⟩ := List.mem_map.mp hx
  exact Nat.xor_lt_two_pow (n := 4) (getD_small h _) (getD_small h _)
theorem two_get0 {a c : List Nat} : (s ++ [cR a, cR c])[s.length]? = some (cR a) := by
  rw [List.getElem?_append_right (Nat.le_refl _), Nat.sub_self]
  rfl
theorem two_get1 {a c : List Nat} : (s ++ [cR a, cR c])[s.length + 1]? = some (cR c) := by
  rw [List.getElem?_append_right (by omega), show s.length + 1 - s.length = 0 + 1 by omega, List.getElem?_cons_succ]
  rfl
theorem two_set0 {a c : List Nat} {x : Nat} : (s ++ [cR a, cR c]).set s.length (.lst ((nt a).map .d ++ [enI x])) = s ++ [cR (a ++ [x]), cR c] := cR_app2
theorem two_set1 {a c : List Nat} {x : Nat} : (s ++ [cR a, cR c]).set (s.length + 1) (.lst ((nt c).map .d ++ [enI x])) = s ++ [cR a, cR (c ++ [x])] := by
  have := cR_app2 (u := s ++ [cR a]) (w := []) (l := c) (x := x)
  rw [List.length_append, List.length_singleton] at this
  simpa [List.append_assoc] using this
theorem R_tp {ms : MA} {e : Lo} {s : Sto} {Q : D → Sto → Prop} (h : R (ms e s) fun ds s1 => ds.length ≤ lim ∧ Q (.r s1.length) (s1 ++ [.tp ds])) : R (eTp ms e s) Q := by
  obtain ⟨ds, s1, h1, h2, h3⟩ := h
  unfold eTp
  simp only [h1, if_pos h2]
  exact R_some.mpr h3
theorem lines_ok (s : Sto) : m__law_lines s [.d (.int 12)] = some (.r (s.length + 2), s ++ [cR (lf1 12), cR (lf2 12), .tp [.r s.length, .r (s.length + 1)]]) := by
  apply R.eq
  unfold m__law_lines b__law_lines
  rw [R_fn]
  refine ⟨rfl, ?_⟩
  simp only [List.map_cons, List.map_nil, List.cons_append, List.nil_append, List.length_cons, List.length_nil, Nat.reduceSub, Nat.reduceAdd, List.replicate_succ, List.replicate_zero]
  rw [Rs_seq, Rs_par]
  simp only [Rs_nil, R_call, R_cons, R_nil, R_Var, R_C, R_bin, R_cmp, R_tcmp, R_tOr, R_tAnd, R_tNot, R_tVal, R_tTrue, R_ite, R_eAnd, R_eOr, R_eNot, R_neg, R_tup, R_isi, R_some, Rc_some, N.v_eq, N.v_ne, N.v_lt, N.v_le, N.v_gt, N.v_ge, N.v_add, N.v_sub, N.v_iadd, N.v_xor, N.v_int, N.tru_b, N.pd_d, N.data_nil, N.data_cons, N.len_t, N.v_tupT, N.g_name, N.isNone_n, N.isNone_t, N.isNone_i, N.v_isN, N.v_isNn, N.v_eqB, N.v_neB, List.set_cons_succ, List.set_cons_zero, List.getElem?_cons_succ, List.getElem?_cons_zero, Bool.not_true, Bool.not_false, Bool.false_eq_true, Bool.true_eq_false, eq_self, true_implies, false_implies, true_and, and_true, decide_true, decide_false, Int.zero_add, N.R_sl, N.R_it, R_oNone, R_oSome, wipeN, N.R_lst, N.R_mkF, N.R_mkT, N.R_meth, N.v_addT, Ri_rng1, Ri_rng2, Ri_seq, List.length_cons, List.length_nil]
  refine ⟨by unfold lim; omega, by unfold lim; omega, ?_⟩
  simp only [List.zip_cons_cons, List.zip_nil_right, List.foldl_cons, List.foldl_nil, List.set_cons_succ, List.set_cons_zero]
  rw [N.thn_nx, Rs_seq]
  have hl1 : (s ++ [Cell.lst [D.d (.int 0)]]).length = s.length + 1 := by simp
  rw [hl1]
  refine Rs_for (List.range 12) (fun k => enI (k + 1)) (fun k e s' => e = [some (.d (.int 12)), some (.r s.length), some (.r (s.length + 1)), none, none] ∧ s' = s ++ [cR (lf1 k), cR (lf2 k)]) ?_ (fun k x e s' hk hi => ?_) (fun e s' hi => ?_)
  · simp only [Rs_nil, R_call, R_cons, R_nil, R_Var, R_C, R_bin, R_cmp, R_tcmp, R_tOr, R_tAnd, R_tNot, R_tVal, R_tTrue, R_ite, R_eAnd, R_eOr, R_eNot, R_neg, R_tup, R_isi, R_some, Rc_some, N.v_eq, N.v_ne, N.v_lt, N.v_le, N.v_gt, N.v_ge, N.v_add, N.v_sub, N.v_iadd, N.v_xor, N.v_int, N.tru_b, N.pd_d, N.data_nil, N.data_cons, N.len_t, N.v_tupT, N.g_name, N.isNone_n, N.isNone_t, N.isNone_i, N.v_isN, N.v_isNn, N.v_eqB, N.v_neB, List.set_cons_succ, List.set_cons_zero, List.getElem?_cons_succ, List.getElem?_cons_zero, Bool.not_true, Bool.not_false, Bool.false_eq_true, Bool.true_eq_false, eq_self, true_implies, false_implies, true_and, and_true, decide_true, decide_false, Int.zero_add, N.R_sl, N.R_it, R_oNone, R_oSome, wipeN, N.R_lst, N.R_mkF, N.R_mkT, N.R_meth, N.v_addT, Ri_rng1, Ri_rng2, Ri_seq]
    refine ⟨by omega, ?_, by simp [cR, nt, lf1, lf2]⟩
    unfold rngD
    rw [show ((12 : Int) + 1 - 1).toNat = 12 by decide]
    refine List.map_congr_left fun k _ => ?_
    show D.d (PyData.int _) = D.d (PyData.int _)
    congr 2
    omega
  · obtain ⟨rfl, rfl⟩ := hi
    obtain ⟨hk1, hk2⟩ := List.getElem?_eq_some_iff.mp hk
    have hx : x = k := by simpa using hk2.symm
    subst hx
    have hx : x < 12 := by simpa using hk1
    rw [g_name, Rc_some]
    simp only [List.set_cons_succ, List.set_cons_zero]
    have s1 := st1_small (lf1_small x (by omega)) (x + 1)
    have s2 := st2_small (lf2_small x (by omega)) (x + 1)
    rw [Rs_seq, Rs_expr, R_meth, R_Var]
    simp only [List.getElem?_cons_succ, List.getElem?_cons_zero]
    have c0 : (s ++ [cR (lf1 x), cR (lf2 x)])[s.length]? = some (.lst ((nt (lf1 x)).map .d)) := two_get0
    have c1 : (s ++ [cR (lf1 (x + 1)), cR (lf2 x)])[s.length + 1]? = some (.lst ((nt (lf2 x)).map .d)) := two_get1
    simp only [c0, R_cons, R_nil, R_call]
    refine R_lcm (List.range (x + 1)) enI (fun k => .int (((lf1 x).getD (k - 1) 0 ^^^ (lf1 x).getD (x + 1 - (k + 2)) 0 : Nat) : Int)) ?_ (fun k hk acc => ?_) (by rw [List.length_range]; unfold lim; omega) ?_
    · simp only [Rs_nil, R_call, R_cons, R_nil, R_Var, R_C, R_bin, R_cmp, R_tcmp, R_tOr, R_tAnd, R_tNot, R_tVal, R_tTrue, R_ite, R_eAnd, R_eOr, R_eNot, R_neg, R_tup, R_isi, R_some, Rc_some, N.v_eq, N.v_ne, N.v_lt, N.v_le, N.v_gt, N.v_ge, N.v_add, N.v_sub, N.v_iadd, N.v_xor, N.v_int, N.tru_b, N.pd_d, N.data_nil, N.data_cons, N.len_t, N.v_tupT, N.g_name, N.isNone_n, N.isNone_t, N.isNone_i, N.v_isN, N.v_isNn, N.v_eqB, N.v_neB, List.set_cons_succ, List.set_cons_zero, List.getElem?_cons_succ, List.getElem?_cons_zero, Bool.not_true, Bool.not_false, Bool.false_eq_true, Bool.true_eq_false, eq_self, true_implies, false_implies, true_and, and_true, decide_true, decide_false, Int.zero_add, N.R_sl, N.R_it, R_oNone, R_oSome, wipeN, N.R_lst, N.R_mkF, N.R_mkT, N.R_meth, N.v_addT, Ri_rng1, Ri_rng2, Ri_seq]
      exact ⟨by omega, rng0' rfl⟩
    · have hk := List.mem_range.mp hk
      rw [g_name, Rc_some]
      simp only [wipeN, List.set_cons_succ, List.set_cons_zero]
      have t1 := it_cR (get_app (t := [Cell.lst acc]) c0) (k := k - 1) (by rw [lf1_len]; omega)
      have t2 := it_cR (get_app (t := [Cell.lst acc]) c0) (k := x + 1 - (k + 2)) (by rw [lf1_len]; omega)
      simp only [Rs_nil, R_call, R_cons, R_nil, R_Var, R_C, R_bin, R_cmp, R_tcmp, R_tOr, R_tAnd, R_tNot, R_tVal, R_tTrue, R_ite, R_eAnd, R_eOr, R_eNot, R_neg, R_tup, R_isi, R_some, Rc_some, N.v_eq, N.v_ne, N.v_lt, N.v_le, N.v_gt, N.v_ge, N.v_add, N.v_sub, N.v_iadd, N.v_xor, N.v_int, N.tru_b, N.pd_d, N.data_nil, N.data_cons, N.len_t, N.v_tupT, N.g_name, N.isNone_n, N.isNone_t, N.isNone_i, N.v_isN, N.v_isNn, N.v_eqB, N.v_neB, List.set_cons_succ, List.set_cons_zero, List.getElem?_cons_succ, List.getElem?_cons_zero, Bool.not_true, Bool.not_false, Bool.false_eq_true, Bool.true_eq_false, eq_self, true_implies, false_implies, true_and, and_true, decide_true, decide_false, Int.zero_add, N.R_sl, N.R_it, R_oNone, R_oSome, wipeN, N.R_lst, N.R_mkF, N.R_mkT, N.R_meth, N.v_addT, Ri_rng1, Ri_rng2, Ri_seq, v_max2, mx0, mx1 hk, t1, t2, bitXor_nat]
    · rw [show (List.range (x + 1)).map (fun k => PyData.int (((lf1 x).getD (k - 1) 0 ^^^ (lf1 x).getD (x + 1 - (k + 2)) 0 : Nat) : Int)) = nt (st1 (lf1 x) (x + 1)) from by unfold nt st1; rw [List.map_map]; rfl]
      refine R_lmissD (M := 16) (ns := st1 (lf1 x) (x + 1)) (fun k => v_inLn) s1 (by decide) (fun q hq => ?_)
      have hq : q = mex (st1 (lf1 x) (x + 1)) := Mex.uniq hq (Ky.mex_ok _)
      subst hq
      simp only [c0, N.v_app, List.length_map, N.nt_len, lf1_len]
      refine ⟨by unfold lim; omega, ?_⟩
      rw [two_set0, show lf1 x ++ [mex (st1 (lf1 x) (x + 1))] = lf1 (x + 1) from rfl, N.thn_nx, Rs_seq, Rs_expr, R_meth, R_Var]
      simp only [List.getElem?_cons_succ, List.getElem?_cons_zero]
      simp only [c1, R_cons, R_nil, R_call]
      refine R_lcm (List.range x) enI (fun k => .int (((lf2 x).getD k 0 ^^^ (lf2 x).getD (x + 1 - 2 - k) 0 : Nat) : Int)) ?_ (fun k hk acc => ?_) (by rw [List.length_range]; unfold lim; omega) ?_
      · simp only [Rs_nil, R_call, R_cons, R_nil, R_Var, R_C, R_bin, R_cmp, R_tcmp, R_tOr, R_tAnd, R_tNot, R_tVal, R_tTrue, R_ite, R_eAnd, R_eOr, R_eNot, R_neg, R_tup, R_isi, R_some, Rc_some, N.v_eq, N.v_ne, N.v_lt, N.v_le, N.v_gt, N.v_ge, N.v_add, N.v_sub, N.v_iadd, N.v_xor, N.v_int, N.tru_b, N.pd_d, N.data_nil, N.data_cons, N.len_t, N.v_tupT, N.g_name, N.isNone_n, N.isNone_t, N.isNone_i, N.v_isN, N.v_isNn, N.v_eqB, N.v_neB, List.set_cons_succ, List.set_cons_zero, List.getElem?_cons_succ, List.getElem?_cons_zero, Bool.not_true, Bool.not_false, Bool.false_eq_true, Bool.true_eq_false, eq_self, true_implies, false_implies, true_and, and_true, decide_true, decide_false, Int.zero_add, N.R_sl, N.R_it, R_oNone, R_oSome, wipeN, N.R_lst, N.R_mkF, N.R_mkT, N.R_meth, N.v_addT, Ri_rng1, Ri_rng2, Ri_seq]
        exact ⟨by omega, rng0' (by omega)⟩
      · have hk := List.mem_range.mp hk
        rw [g_name, Rc_some]
        simp only [wipeN, List.set_cons_succ, List.set_cons_zero]
        have t1 := it_cR (get_app (t := [Cell.lst acc]) c1) (k := k) (by rw [lf2_len]; omega)
        have t2 := it_cR (get_app (t := [Cell.lst acc]) c1) (k := x + 1 - 2 - k) (by rw [lf2_len]; omega)
        have e2 : ((x + 1 : Nat) : Int) - 2 - (k : Int) = ((x + 1 - 2 - k : Nat) : Int) := by omega
        simp only [Rs_nil, R_call, R_cons, R_nil, R_Var, R_C, R_bin, R_cmp, R_tcmp, R_tOr, R_tAnd, R_tNot, R_tVal, R_tTrue, R_ite, R_eAnd, R_eOr, R_eNot, R_neg, R_tup, R_isi, R_some, Rc_some, N.v_eq, N.v_ne, N.v_lt, N.v_le, N.v_gt, N.v_ge, N.v_add, N.v_sub, N.v_iadd, N.v_xor, N.v_int, N.tru_b, N.pd_d, N.data_nil, N.data_cons, N.len_t, N.v_tupT, N.g_name, N.isNone_n, N.isNone_t, N.isNone_i, N.v_isN, N.v_isNn, N.v_eqB, N.v_neB, List.set_cons_succ, List.set_cons_zero, List.getElem?_cons_succ, List.getElem?_cons_zero, Bool.not_true, Bool.not_false, Bool.false_eq_true, Bool.true_eq_false, eq_self, true_implies, false_implies, true_and, and_true, decide_true, decide_false, Int.zero_add, N.R_sl, N.R_it, R_oNone, R_oSome, wipeN, N.R_lst, N.R_mkF, N.R_mkT, N.R_meth, N.v_addT, Ri_rng1, Ri_rng2, Ri_seq, e2, t1, t2, bitXor_nat]
      · rw [show (List.range x).map (fun k => PyData.int (((lf2 x).getD k 0 ^^^ (lf2 x).getD (x + 1 - 2 - k) 0 : Nat) : Int)) = nt (st2 (lf2 x) (x + 1)) from by unfold nt st2; rw [List.map_map]; rfl]
        refine R_lmissD (M := 16) (ns := st2 (lf2 x) (x + 1)) (fun k => v_inLn) s2 (by decide) (fun q hq => ?_)
        have hq : q = mex (st2 (lf2 x) (x + 1)) := Mex.uniq hq (Ky.mex_ok _)
        subst hq
        simp only [c1, N.v_app, List.length_map, N.nt_len, lf2_len]
        refine ⟨by unfold lim; omega, ?_⟩
        rw [two_set1, show lf2 x ++ [mex (st2 (lf2 x) (x + 1))] = lf2 (x + 1) from rfl, N.thn_nx, Rs_nil, aft_nx, trimE_len (by simp)]
        exact ⟨rfl, rfl⟩
  · obtain ⟨rfl, rfl⟩ := hi
    rw [List.length_range, N.thn_nx, Rs_seq, Rs_ret]
    refine R_tp ?_
    simp only [Rs_nil, R_call, R_cons, R_nil, R_Var, R_C, R_bin, R_cmp, R_tcmp, R_tOr, R_tAnd, R_tNot, R_tVal, R_tTrue, R_ite, R_eAnd, R_eOr, R_eNot, R_neg, R_tup, R_isi, R_some, Rc_some, N.v_eq, N.v_ne, N.v_lt, N.v_le, N.v_gt, N.v_ge, N.v_add, N.v_sub, N.v_iadd, N.v_xor, N.v_int, N.tru_b, N.pd_d, N.data_nil, N.data_cons, N.len_t, N.v_tupT, N.g_name, N.isNone_n, N.isNone_t, N.isNone_i, N.v_isN, N.v_isNn, N.v_eqB, N.v_neB, List.set_cons_succ, List.set_cons_zero, List.getElem?_cons_succ, List.getElem?_cons_zero, Bool.not_true, Bool.not_false, Bool.false_eq_true, Bool.true_eq_false, eq_self, true_implies, false_implies, true_and, and_true, decide_true, decide_false, Int.zero_add, N.R_sl, N.R_it, R_oNone, R_oSome, wipeN, N.R_lst, N.R_mkF, N.R_mkT, N.R_meth, N.v_addT, Ri_rng1, Ri_rng2, Ri_seq, List.length_cons, List.length_nil]
    refine ⟨by unfold lim; omega, ?_⟩
    rw [N.thn_rt]
    unfold N.ret
    simp only []
    rw [if_neg (by simp), if_pos trivial]
    refine R_some.mpr ⟨by simp, by simp⟩
end T78

namespace T78
open PySem L2 PyProof.Rows N
open Ky (Adj adjN Nx As g near behV behE behAt beh adjL mex)
variable {C : Addr} {n t : Nat} {b : Bool} {s rest : Sto} {A E es : List (Nat × Nat)}
theorem moved_ok (hl : es.length ≤ 10000) (m : Nat) (s : Sto) : m__law_moved s [.d (gra n es), .d (.int (m : Nat))] = some (.d (.tuple ((mvE m es).map pr)), s) := by
  apply R.eq
  unfold m__law_moved b__law_moved
  rw [R_fn]
  refine ⟨rfl, ?_⟩
  simp only [List.map_cons, List.map_nil, List.cons_append, List.nil_append, List.length_cons, List.length_nil, Nat.reduceSub, Nat.reduceAdd, List.replicate_succ, List.replicate_zero]
  rw [Rs_seq, Rs_ret, R_call, R_cons]
  refine R_lcm es (fun e => .d (pr e)) (fun e => pr (e.1 + m, e.2 + m)) ?_ (fun e he acc => ?_) (by unfold lim; omega) ?_
  · simp only [Rs_nil, R_call, R_cons, R_nil, R_Var, R_C, R_bin, R_cmp, R_tcmp, R_tOr, R_tAnd, R_tNot, R_tVal, R_tTrue, R_ite, R_eAnd, R_eOr, R_eNot, R_neg, R_tup, R_isi, R_some, Rc_some, N.v_eq, N.v_ne, N.v_lt, N.v_le, N.v_gt, N.v_ge, N.v_add, N.v_sub, N.v_iadd, N.v_xor, N.v_int, N.tru_b, N.pd_d, N.data_nil, N.data_cons, N.len_t, N.v_tupT, N.g_name, N.isNone_n, N.isNone_t, N.isNone_i, N.v_isN, N.v_isNn, N.v_eqB, N.v_neB, List.set_cons_succ, List.set_cons_zero, List.getElem?_cons_succ, List.getElem?_cons_zero, Bool.not_true, Bool.not_false, Bool.false_eq_true, Bool.true_eq_false, eq_self, true_implies, false_implies, true_and, and_true, decide_true, decide_false, Int.zero_add, N.R_sl, N.R_it, R_oNone, R_oSome, wipeN, N.R_lst, N.R_mkF, N.R_mkT, N.R_meth, N.v_addT, Ri_rng1, Ri_rng2, Ri_seq, it_snd]
    rw [List.map_map]
    rfl
  · simp only [N.g_tup, N.gs_cons, N.gs_nil, N.gs_len, g_name, List.length_cons, List.length_nil, Nat.reduceAdd, if_true, Rc_some, List.set_cons_succ, List.set_cons_zero, wipeN]
    simp only [Rs_nil, R_call, R_cons, R_nil, R_Var, R_C, R_bin, R_cmp, R_tcmp, R_tOr, R_tAnd, R_tNot, R_tVal, R_tTrue, R_ite, R_eAnd, R_eOr, R_eNot, R_neg, R_tup, R_isi, R_some, Rc_some, N.v_eq, N.v_ne, N.v_lt, N.v_le, N.v_gt, N.v_ge, N.v_add, N.v_sub, N.v_iadd, N.v_xor, N.v_int, N.tru_b, N.pd_d, N.data_nil, N.data_cons, N.len_t, N.v_tupT, N.g_name, N.isNone_n, N.isNone_t, N.isNone_i, N.v_isN, N.v_isNn, N.v_eqB, N.v_neB, List.set_cons_succ, List.set_cons_zero, List.getElem?_cons_succ, List.getElem?_cons_zero, Bool.not_true, Bool.not_false, Bool.false_eq_true, Bool.true_eq_false, eq_self, true_implies, false_implies, true_and, and_true, decide_true, decide_false, Int.zero_add, N.R_sl, N.R_it, R_oNone, R_oSome, wipeN, N.R_lst, N.R_mkF, N.R_mkT, N.R_meth, N.v_addT, Ri_rng1, Ri_rng2, Ri_seq, List.length_cons, List.length_nil]
    exact ⟨by unfold lim; omega, rfl⟩
  · simp only [R_nil, v_tupL, R_some, N.thn_rt]
    unfold N.ret
    simp only []
    rw [trim_len rfl]
    refine R_some.mpr ⟨?_, rfl⟩
    unfold mvE
    rw [List.map_map]
    rfl
def two (e : Nat × Nat) : List Nat := [e.1, e.2]
def unp : PyData → Nat × Nat
  | .tuple [.int a, .int c] => (a.toNat, c.toNat)
  | _ => (0, 0)
theorem unp_pr (e : Nat × Nat) : unp (pr e) = e := by
  obtain ⟨a, c⟩ := e
  rfl
/-- sorted rows of pairs are rows of pairs -/
theorem srt_pr (L : List (Nat × Nat)) : ∃ E : List (Nat × Nat), E.Perm L ∧ Z.srt (L.map pr) = E.map pr := by
  refine ⟨(Z.srt (L.map pr)).map unp, ?_, ?_⟩
  · have h := (Z.srt_perm (L.map pr)).map unp
    rw [List.map_map] at h
    have e : L.map (unp ∘ pr) = L := by
      rw [show (unp ∘ pr) = id from funext unp_pr, List.map_id]
    rwa [e] at h
  · rw [List.map_map]
    symm
    have h : ∀ x ∈ Z.srt (L.map pr), (pr ∘ unp) x = x := fun x hx => by
      obtain ⟨e, _, rfl⟩ := List.mem_map.mp ((Z.srt_perm (L.map pr)).mem_iff.mp hx)
      show pr (unp (pr e)) = pr e
      rw [unp_pr]
    rw [List.map_congr_left h, List.map_id']
theorem two_map (L : List (Nat × Nat)) : L.map pr = (L.map two).map tup := by
  rw [List.map_map]
  rfl
theorem mv_nd {m : Nat} (h : es.Nodup) : (mvE m es).Nodup := by
  unfold mvE
  rw [List.nodup_iff_pairwise_ne, List.pairwise_map]
  refine h.imp fun {a c} ne e => ne ?_
  have h1 := congrArg Prod.fst e
  have h2 := congrArg Prod.snd e
  simp only [] at h1 h2
  exact Prod.ext (by omega) (by omega)
theorem side_nd {m n : Nat} {A B : List (Nat × Nat)} (GA : Gr m A) (GB : Gr n B) : (A ++ mvE m B).Nodup := by
  rw [List.nodup_append]
  refine ⟨GA.nd, mv_nd GB.nd, fun x hx y hy e => ?_⟩
  subst e
  have h1 := GA.lt x hx
  have h2 := GA.le x hx
  obtain ⟨a, c, h, h3, h4⟩ := mem_mv.mp hy
  omega
theorem R_sort_side {m n : Nat} {A B : List (Nat × Nat)} (GA : Gr m A) (GB : Gr n B) {s : Sto} {Q : D → Sto → Prop} (q : ∀ E : List (Nat × Nat), E.Nodup → (∀ e, e ∈ E ↔ e ∈ A ∨ e ∈ mvE m B) → Q (.d (.list (E.map pr))) s) : R (bSortU false s [.d (.tuple ((A ++ mvE m B).map pr))]) Q := by
  rw [two_map]
  refine R_srtU ?_
  rw [← two_map]
  obtain ⟨E, h1, h2⟩ := srt_pr (A ++ mvE m B)
  rw [h2]
  exact q E (h1.nodup_iff.mpr (side_nd GA GB)) fun e => by rw [h1.mem_iff, List.mem_append]
/-- the edges between two like halves -/
def brL (n t : Nat) : List (Nat × Nat) := (List.range n).flatMap fun i => ((List.range n).filter fun j => brg n t i j).map fun j => (i, n + j)
theorem mem_br {u v : Nat} : (u, v) ∈ brL n t ↔ ∃ i j, i < n ∧ j < n ∧ brg n t i j = true ∧ u = i ∧ v = n + j := by
  unfold brL
  rw [List.mem_flatMap]
  constructor
  · rintro ⟨i, hi, h⟩
    obtain ⟨j, hj, e⟩ := List.mem_map.mp h
    obtain ⟨h1, h2⟩ := List.mem_filter.mp hj
    cases e
    exact ⟨_, j, List.mem_range.mp hi, List.mem_range.mp h1, h2, rfl, rfl⟩
  · rintro ⟨i, j, h1, h2, h3, rfl, rfl⟩
    exact ⟨_, List.mem_range.mpr h1, List.mem_map.mpr ⟨j, List.mem_filter.mpr ⟨List.mem_range.mpr h2, h3⟩, rfl⟩⟩
theorem half_of {A M : List (Nat × Nat)} (nd : M.Nodup) (h : ∀ e, e ∈ M ↔ e ∈ A ++ mvE n A ++ brL n t) : Half n t A M := ⟨nd, fun u v => by rw [h, List.mem_append, List.mem_append, mem_br, or_assoc]⟩
end T78

namespace T78
open PySem L2 PyProof.Rows N
open Ky (Adj adjN Nx As g near behV behE behAt beh adjL mex)
variable {C : Addr} {n t : Nat} {b : Bool} {s rest u : Sto} {A E es : List (Nat × Nat)} {M1 M2 : List (List Nat)} {Qs : Fl → Lo → Sto → Prop} {e : Lo}
theorem Rs_chk {x y : ME} (h : R (x e s) fun d s1 => R (y e s1) fun d2 s2 => ∃ z, d = .d z ∧ d2 = .d z ∧ sok 6 z ∧ Qs .nx e s2) : Rs (sIf (tNot (tVal (eCall (m__law_same 6) (aCons x (aCons y aNil))))) (sSeq (sRet (eC (.bool false))) sNil) sNil e s) Qs := by
  obtain ⟨_, s1, h1, _, s2, h2, z, rfl, rfl, h3, h4⟩ := h
  rw [Rs_if, R_tNot, R_tVal, R_call, R_cons, h1, R_some, R_cons, h2, R_some, R_nil]
  refine R_same h3 ?_
  rw [tru_b, Rc_some]
  exact ⟨fun h => (by cases h), fun _ => Rs_nil.mpr h4⟩
/-- the two memos of a turn -/
def sto (u : Sto) (n : Nat) (es : List (Nat × Nat)) (M1 M2 : List (List Nat)) : Sto := u ++ [Mc false (nxs n es) M1, Mc true (nxs n es) M2]
theorem sto_wf (W : Wf u) : Wf (sto u n es M1 M2) := fun c hc => by
  unfold sto at hc ⊢
  rw [List.length_append]
  rcases List.mem_append.mp hc with h | h
  · exact below_mono (W c h) (by omega)
  · rcases List.mem_cons.mp h with rfl | h
    · exact DG_below _ _ _ _
    · rw [List.mem_singleton.mp h]
      exact DG_below _ _ _ _
theorem sto_len : (sto u n es M1 M2).length = u.length + 2 := by simp [sto]
theorem sto_0 : (sto u n es M1 M2)[u.length]? = some (Mc false (nxs n es) M1) := by
  unfold sto
  rw [List.getElem?_append_right (Nat.le_refl _), Nat.sub_self]
  rfl
theorem sto_1 : (sto u n es M1 M2)[u.length + 1]? = some (Mc true (nxs n es) M2) := by
  unfold sto
  rw [List.getElem?_append_right (by omega), show u.length + 1 - u.length = 0 + 1 by omega, List.getElem?_cons_succ]
  rfl
theorem sto_s0 {M : List (List Nat)} : (sto u n es M1 M2).set u.length (Mc false (nxs n es) M) = sto u n es M M2 := by
  unfold sto
  rw [List.set_append_right _ _ (Nat.le_refl _), Nat.sub_self]
  rfl
theorem sto_s1 {M : List (List Nat)} : (sto u n es M1 M2).set (u.length + 1) (Mc true (nxs n es) M) = sto u n es M1 M := by
  unfold sto
  rw [List.set_append_right _ _ (by omega), show u.length + 1 - u.length = 0 + 1 by omega]
  rfl
theorem sto_lm0 (W : Wf u) (h : Mok n M1) : LM u.length n false (nxs n es) M1 (sto u n es M1 M2) := ⟨sto_wf W, h, sto_0⟩
theorem sto_lm1 (W : Wf u) (h : Mok n M2) : LM (u.length + 1) n true (nxs n es) M2 (sto u n es M1 M2) := ⟨sto_wf W, h, sto_1⟩
theorem lval (G : Gr n es) (hn : n ≤ 12) (W : Wf u) (h1 : Mok n M1) {S : List Nat} (a : As n S) : ∃ M', Mok n M' ∧ m__law_value 14 (sto u n es M1 M2) [.d (gra n es), .d (tup S), .r u.length] = some (.d (.int (g false (adjE es) S : Nat)), sto u n es M' M2) := by
  obtain ⟨M', h, e⟩ := lvalue_ok G hn 14 S M1 _ (by have := a.len; omega) a (sto_lm0 (M2 := M2) W h1)
  rw [sto_s0] at e
  exact ⟨M', h, e⟩
theorem ledge (G : Gr n es) (hn : n ≤ 12) (W : Wf u) (h2 : Mok n M2) {S : List Nat} (a : As n S) : ∃ M', Mok n M' ∧ m__law_edge_value 14 (sto u n es M1 M2) [.d (gra n es), .d (tup S), .r (u.length + 1)] = some (.d (.int (g true (adjE es) S : Nat)), sto u n es M1 M') := by
  obtain ⟨M', h, e⟩ := ledge_ok G hn 14 S M2 _ (by have := a.len; omega) a (sto_lm1 (M1 := M1) W h2)
  rw [sto_s1] at e
  exact ⟨M', h, e⟩
theorem sok_two (a c : Nat) : sok 6 (.tuple [.int a, .int c]) := sok_tup (by simp [lim]) fun x hx => by
  simp only [List.mem_cons, List.not_mem_nil, or_false] at hx
  rcases hx with rfl | rfl <;> exact sok_int 4 _
theorem sok_row {l : List Nat} (h : l.length ≤ 1000) : sok 6 (tup l) := sok_tup (by rw [N.nt_len]; unfold lim; omega) fun x hx => by
  obtain ⟨k, _, rfl⟩ := List.mem_map.mp hx
  exact sok_int 4 _
/-- the values are as the law plays them -/
theorem chk_vals (G : Gr n es) (h0 : 0 < n) (hn : n ≤ 12) (W : Wf u) (h1 : Mok n M1) (h2 : Mok n M2) (e3 : e[3]? = some (some (.d (gra n es)))) (e4 : e[4]? = some (some (.d (tup (List.range n))))) (e5 : e[5]? = some (some (.r u.length))) (e6 : e[6]? = some (some (.r (u.length + 1))))
    (q : ∀ M1 M2, Mok n M1 → Mok n M2 → Qs .nx e (sto u n es M1 M2)) : Rs (sIf (tNot (tVal (eCall (m__law_same 6) (aCons (eTup (aCons (eCall (m_kayles_value C) (aCons (eVar 3) aNil)) (aCons (eCall (m_edge_kayles_value C) (aCons (eVar 3) aNil)) aNil))) (aCons (eTup (aCons (eCall (m__law_value 14) (aCons (eVar 3) (aCons (eVar 4) (aCons (eVar 5) aNil)))) (aCons (eCall (m__law_edge_value 14) (aCons (eVar 3) (aCons (eVar 4) (aCons (eVar 6) aNil)))) aNil))) aNil))))) (sSeq (sRet (eC (.bool false))) sNil) sNil e (sto u n es M1 M2)) Qs := by
  refine Rs_chk ?_
  obtain ⟨M3, h3, l1⟩ := lval (M2 := M2) G hn W h1 (As.range n)
  obtain ⟨M4, h4, l2⟩ := ledge (M1 := M3) G hn W h2 (As.range n)
  simp only [R_tup, R_cons, R_nil, R_call, R_Var, e3, e4, e5, e6, kvalue_ok G h0 hn (sto_wf W), kedge_ok G h0 hn (sto_wf W), l1, l2, R_some, N.data_cons, N.data_nil, Rc_some, List.length_cons, List.length_nil]
  refine ⟨by unfold lim; omega, by unfold lim; omega, _, rfl, rfl, sok_two _ _, q M3 M4 h3 h4⟩
theorem winV_succ {k : Nat} {S : List Nat} : (List.range (k + 1)).filter (winV es S) = if winV es S k = true then (List.range k).filter (winV es S) ++ [k] else (List.range k).filter (winV es S) := by
  rw [List.range_succ]
  exact filter_snoc
/-- the places that win -/
theorem due_ok (G : Gr n es) (hn : n ≤ 12) (W : Wf u) (h1 : Mok n M1) (he : 8 < e.length) (e3 : e[3]? = some (some (.d (gra n es)))) (e4 : e[4]? = some (some (.d (tup (List.range n))))) (e5 : e[5]? = some (some (.r u.length))) {Q : D → Sto → Prop}
    (q : ∀ M1, Mok n M1 → Q (.d (tup ((List.range n).filter (winV es (List.range n))))) (sto u n es M1 M2)) : R (eCall bTuple (aCons (eLc false [8] (iSeq (eVar 4)) (gName 8) (tCmp cEq (eCall (m__law_value 14) (aCons (eVar 3) (aCons (eCall m__law_rest (aCons (eVar 3) (aCons (eVar 4) (aCons (eVar 8) aNil)))) (aCons (eVar 5) aNil)))) (eC (.int 0))) (eVar 8)) aNil) e (sto u n es M1 M2)) Q := by
  rw [R_call, R_cons]
  refine R_lcI (List.range n) enI (u.length + 2) (fun i acc s' => acc = nt ((List.range i).filter (winV es (List.range n))) ∧ ∃ M, Mok n M ∧ s' = sto u n es M M2) ?_ (fun i acc s' hi => ?_) (fun i v acc s' hk hi => ?_) (by rw [List.length_range]; unfold lim; omega) (fun acc s' hi => ?_)
  · simp only [Ri_seq, R_Var, e4, tup]
    exact ⟨nt_enI _, trivial, rfl, M1, h1, rfl⟩
  · obtain ⟨_, M, hM, rfl⟩ := hi
    exact ⟨sto_len, sto_wf W⟩
  · obtain ⟨rfl, M, hM, rfl⟩ := hi
    obtain ⟨hk1, hk2⟩ := List.getElem?_eq_some_iff.mp hk
    have hv : v = i := by simpa using hk2.symm
    subst hv
    have aS : As n (rstV es (List.range n) v) := (As.range n).fil _
    have L2 := (sto_lm0 (M2 := M2) (es := es) W hM).app (nt ((List.range v).filter (winV es (List.range n))))
    obtain ⟨M3, hM3, e9⟩ := lvalue_ok G hn 14 (rstV es (List.range n) v) M _ (by have := aS.len; omega) aS L2
    rw [List.set_append_left _ _ (by rw [sto_len]; omega), sto_s0] at e9
    rw [g_name, Rc_some]
    have w3 : ((wipeN e [8]).set 8 (some (enI v)))[3]? = some (some (.d (gra n es))) := by simpa [wipeN] using e3
    have w4 : ((wipeN e [8]).set 8 (some (enI v)))[4]? = some (some (.d (tup (List.range n)))) := by simpa [wipeN] using e4
    have w5 : ((wipeN e [8]).set 8 (some (enI v)))[5]? = some (some (.r u.length)) := by simpa [wipeN] using e5
    have w8 : ((wipeN e [8]).set 8 (some (enI v)))[8]? = some (some (enI v)) := by simp [wipeN, he]
    simp only [R_tcmp, R_call, R_cons, R_nil, R_Var, w3, w4, w5, w8, rest_law (G.len2 hn) v (List.range n) (by rw [List.length_range]; omega) _ L2.wf, e9, R_some, R_C, N.v_eq, Rc_some, eq0]
    refine ⟨fun h => ⟨_, rfl, ?_, M3, hM3, rfl⟩, fun h => ⟨_, _, rfl, rfl, ?_, M3, hM3, rfl⟩⟩
    · rw [winV_succ, if_neg]
      unfold winV
      rw [h]
      exact Bool.false_ne_true
    · rw [winV_succ, if_pos (show winV es (List.range n) v = true from h)]
      simp [nt]
  · obtain ⟨rfl, M, hM, rfl⟩ := hi
    rw [List.length_range, R_nil, v_tupL, R_some]
    exact q M hM
end T78

namespace T78
open PySem L2 PyProof.Rows N
open Ky (Adj adjN Nx As g near behV behE behAt beh adjL mex)
variable {C : Addr} {n t : Nat} {b : Bool} {s rest u : Sto} {A E es : List (Nat × Nat)} {M1 M2 : List (List Nat)} {Qs : Fl → Lo → Sto → Prop} {e : Lo}
theorem winE_succ {k : Nat} {S : List Nat} : (List.range (k + 1)).filter (winE es S) = if winE es S k = true then (List.range k).filter (winE es S) ++ [k] else (List.range k).filter (winE es S) := by
  rw [List.range_succ]
  exact filter_snoc
/-- the slots of a turn, two of them free -/
structure Ee (ee : Option D → Option D → Lo) (u : Sto) (n : Nat) (es : List (Nat × Nat)) : Prop where
  s10 : ∀ a b d, (ee a b).set 10 d = ee d b
  s11 : ∀ a b d, (ee a b).set 11 d = ee a d
  len : ∀ a b, (ee a b).length = 24
  g10 : ∀ d b, (ee (some d) b)[10]? = some (some d)
  g11 : ∀ a d, (ee a (some d))[11]? = some (some d)
  e3 : ∀ a b, (ee a b)[3]? = some (some (.d (gra n es)))
  e4 : ∀ a b, (ee a b)[4]? = some (some (.d (tup (List.range n))))
  e6 : ∀ a b, (ee a b)[6]? = some (some (.r (u.length + 1)))
  e9 : ∀ a b, (ee a b)[9]? = some (some (.r (u.length + 2)))
theorem wins_ok {ee : Option D → Option D → Lo} (X : Ee ee u n es) (G : Gr n es) (hn : n ≤ 12) (W : Wf u) (h2 : Mok n M2) (y0 : Option PyData)
    (q : ∀ (y : Option PyData) M2, Mok n M2 → Qs .nx (ee (y.map .d) none) (sto u n es M1 M2 ++ [cR ((List.range es.length).filter (winE es (List.range n)))])) :
    Rs (sFor (iRng1 (aCons (eCall bLen (aCons (eIt (eVar 3) (eC (.int 1))) aNil)) aNil)) (gName 10) (sSeq (sSet 11 (eCall bTuple (aCons (eLc false [8] (iSeq (eVar 4)) (gName 8) (tCmp (cIn true) (eVar 8) (eIt (eIt (eVar 3) (eC (.int 1))) (eVar 10))) (eVar 8)) aNil)))
  (sSeq (sIf (tCmp cEq (eCall (m__law_edge_value 14) (aCons (eVar 3) (aCons (eVar 11) (aCons (eVar 6) aNil)))) (eC (.int 0))) (sSeq (sExpr (eMeth fApp (eVar 9) (aCons (eVar 10) aNil)))
  sNil) sNil)
  sNil)) [11] (ee (y0.map .d) none) (sto u n es M1 M2 ++ [.lst []])) Qs := by
  have hl := G.len2 hn
  have hln := G.len
  refine Rs_for (List.range es.length) enI (fun k e s' => ∃ (y : Option PyData) (M : List (List Nat)), Mok n M ∧ e = ee (y.map .d) none ∧ s' = sto u n es M1 M ++ [cR ((List.range k).filter (winE es (List.range n)))]) ?_ (fun k v e s' hk hi => ?_) (fun e s' hi => ?_)
  · simp only [Ri_rng1, R_cons, R_nil, R_call, R_it, R_Var, X.e3, R_C, R_some, it_snd, Rc_some, N.len_t, List.length_map]
    exact ⟨by omega, rng0' rfl, trivial, y0, M2, h2, rfl, rfl⟩
  · obtain ⟨y, M, hM, rfl, rfl⟩ := hi
    obtain ⟨hk1, hk2⟩ := List.getElem?_eq_some_iff.mp hk
    have hv : v = k := by simpa using hk2.symm
    subst hv
    have hv : v < es.length := by simpa using hk1
    have hw := winE_succ (es := es) (k := v) (S := List.range n)
    have lw : ((List.range v).filter (winE es (List.range n))).length ≤ 144 := by
      have h1 := List.length_filter_le (winE es (List.range n)) (List.range v)
      rw [List.length_range] at h1
      have h3 : n * n ≤ 12 * 12 := Nat.mul_le_mul hn hn
      omega
    generalize (List.range v).filter (winE es (List.range n)) = w at *
    obtain ⟨ed, hed⟩ : ∃ ed, es.getD v (0, 0) = ed := ⟨_, rfl⟩
    have ite : ∀ s : Sto, itF s (.d (.tuple (es.map pr))) (.d (.int (v : Nat))) = some (.d (pr ed)) := fun s => itF_t (N.atI_nat (by
      rw [List.getElem?_map, ← hed, List.getD_eq_getElem?_getD, List.getElem?_eq_getElem hv]
      rfl))
    rw [g_name, Rc_some, X.s10, Rs_seq, Rs_set, R_call, R_cons]
    refine R_int_filter (l := List.range n) (p := fun o => !decide (o ∈ [ed.1, ed.2])) ?_ (by rw [X.len]; decide) (by rw [List.length_range]; unfold lim; omega) (fun x hx acc => ?_) ?_
    · simp only [Ri_seq, R_Var, X.e4, tup]
      exact ⟨nt_enI _, trivial, trivial⟩
    · have w3 : ((wipeN (ee (some (enI v)) none) [8]).set 8 (some (enI x)))[3]? = some (some (.d (gra n es))) := by simpa [wipeN] using X.e3 (some (enI v)) none
      have w10 : ((wipeN (ee (some (enI v)) none) [8]).set 8 (some (enI x)))[10]? = some (some (enI v)) := by simpa [wipeN] using X.g10 (enI v) none
      have w8 : ((wipeN (ee (some (enI v)) none) [8]).set 8 (some (enI x)))[8]? = some (some (enI x)) := by simp [wipeN, X.len]
      simp only [R_tcmp, R_it, R_Var, w3, w10, w8, R_C, R_some, it_snd, Rc_some, ite]
      rw [show D.d (pr ed) = .d (.tuple (nt [ed.1, ed.2])) from rfl, v_inNt]
      exact Rc_some.mpr ⟨rfl, trivial⟩
    · have aS : As n (rstE (List.range n) ed) := (As.range n).fil _
      have L2 : LM (u.length + 1) n true (nxs n es) M (sto u n es M1 M ++ [cR w]) := (sto_lm1 (M1 := M1) (es := es) W hM).app (nt w)
      obtain ⟨M3, hM3, e9⟩ := ledge_ok G hn 14 (rstE (List.range n) ed) M _ (by have := aS.len; omega) aS L2
      rw [List.set_append_left _ _ (by rw [sto_len]; omega), sto_s1] at e9
      have c3 : (sto u n es M1 M3 ++ [cR w])[u.length + 2]? = some (.lst ((nt w).map .d)) := by
        rw [← sto_len (u := u) (n := n) (es := es) (M1 := M1) (M2 := M3)]; exact cR_get
      have cs : (sto u n es M1 M3 ++ [cR w]).set (u.length + 2) (.lst ((nt w).map .d ++ [enI v])) = sto u n es M1 M3 ++ [cR (w ++ [v])] := by
        rw [← sto_len (u := u) (n := n) (es := es) (M1 := M1) (M2 := M3)]; exact cR_app
      rw [R_nil, v_tupL, R_some, X.s11, N.thn_nx, Rs_seq, Rs_if]
      simp only [R_tcmp, R_call, R_cons, R_nil, R_Var, X.e3, X.e6, X.g11]
      rw [show m__law_edge_value 14 (sto u n es M1 M ++ [cR w]) [.d (gra n es), .d (.tuple (nt ((List.range n).filter fun o => !decide (o ∈ [ed.1, ed.2])))), .r (u.length + 1)] = _ from e9, R_some]
      simp only [R_C, N.v_eq, Rc_some, eq0]
      have wE : winE es (List.range n) v = decide (g true (adjE es) (rstE (List.range n) ed) = 0) := by
        unfold winE
        rw [hed]
      refine ⟨fun h => ?_, fun h => ?_⟩
      · rw [Rs_seq, Rs_expr, R_meth, R_Var]
        simp only [X.e9, c3, R_cons, R_nil, R_Var, X.g10, N.v_app, List.length_map, N.nt_len]
        refine ⟨by unfold lim; omega, ?_⟩
        rw [cs, N.thn_nx, Rs_nil, N.thn_nx, Rs_nil, aft_nx, trimE_len (by simp [sto_len]), hw, wE, if_pos h]
        exact ⟨some (.int (v : Nat)), M3, hM3, X.s11 _ _ _, rfl⟩
      · rw [Rs_nil, N.thn_nx, Rs_nil, aft_nx, trimE_len (by simp [sto_len]), hw, wE, if_neg (by rw [h]; exact Bool.false_ne_true)]
        exact ⟨some (.int (v : Nat)), M3, hM3, X.s11 _ _ _, rfl⟩
  · obtain ⟨y, M, hM, rfl, rfl⟩ := hi
    rw [List.length_range]
    exact q y M hM
end T78

namespace T78
open PySem L2 PyProof.Rows N
open Ky (Adj adjN Nx As g near behV behE behAt beh adjL mex)
variable {C : Addr} {n m t : Nat} {b : Bool} {s rest u : Sto} {A B E es : List (Nat × Nat)} {M1 M2 : List (List Nat)} {Qs : Fl → Lo → Sto → Prop} {Q : D → Sto → Prop} {e : Lo}
theorem side_set (GA : Gr m A) (GB : Gr n B) (hm : m ≤ 12) (hn : n ≤ 12) (e12 : e[12]? = some (some (.d (gra m A)))) (e13 : e[13]? = some (some (.d (gra n B)))) (q : ∀ E : List (Nat × Nat), E.Nodup → (∀ e, e ∈ E ↔ e ∈ A ∨ e ∈ mvE m B) → Q (.d (gra (m + n) E)) s) : R (eTup (aCons (eBin (oAdd false) (eIt (eVar 12) (eC (.int 0))) (eIt (eVar 13) (eC (.int 0)))) (aCons (eCall bTuple (aCons (eCall (bSortU false) (aCons (eBin (oAdd false) (eIt (eVar 12) (eC (.int 1))) (eCall m__law_moved (aCons (eVar 13) (aCons (eIt (eVar 12) (eC (.int 0))) aNil)))) aNil)) aNil)) aNil)) e s) Q := by
  have lA := GA.len2 hm
  have lB := GB.len2 hn
  simp only [R_tup, R_cons, R_nil, R_call, R_bin, R_it, R_Var, e12, e13, R_C, R_some, it_fst, it_snd, Rc_some, N.v_add, moved_ok lB, v_addT, List.length_map]
  refine ⟨by unfold mvE; rw [List.length_map]; unfold lim; omega, ?_⟩
  rw [← List.map_append]
  refine R_sort_side GA GB fun E h1 h2 => ?_
  simp only [v_tupL, R_some, N.data_cons, N.data_nil, Rc_some, List.length_cons, List.length_nil]
  exact ⟨by unfold lim; omega, q E h1 h2⟩
theorem R_tsame {x y : ME} {Qt : Bool → Sto → Prop} (h : R (x e s) fun d s1 => R (y e s1) fun d2 s2 => ∃ z, d = .d z ∧ d2 = .d z ∧ sok 6 z ∧ Qt false s2) : R (tNot (tVal (eCall (m__law_same 6) (aCons x (aCons y aNil)))) e s) Qt := by
  obtain ⟨_, s1, h1, _, s2, h2, z, rfl, rfl, h3, h4⟩ := h
  rw [R_tNot, R_tVal, R_call, R_cons, h1, R_some, R_cons, h2, R_some, R_nil]
  refine R_same h3 ?_
  rw [tru_b, Rc_some]
  exact h4
theorem side_chk (GA : Gr m A) (GB : Gr n B) (m0 : 0 < m) (n0 : 0 < n) (hmn : m + n ≤ 12) (W : Wf s) (nd : E.Nodup) (hE : ∀ e, e ∈ E ↔ e ∈ A ∨ e ∈ mvE m B) (e12 : e[12]? = some (some (.d (gra m A)))) (e13 : e[13]? = some (some (.d (gra n B)))) (e14 : e[14]? = some (some (.d (gra (m + n) E)))) (q : Qs .nx e s) :
    Rs (sIf (tOr (tNot (tVal (eCall (m__law_same 6) (aCons (eCall (m_kayles_value C) (aCons (eVar 14) aNil)) (aCons (eBin oXor (eCall (m_kayles_value C) (aCons (eVar 12) aNil)) (eCall (m_kayles_value C) (aCons (eVar 13) aNil))) aNil))))) (tNot (tVal (eCall (m__law_same 6) (aCons (eCall (m_edge_kayles_value C) (aCons (eVar 14) aNil)) (aCons (eBin oXor (eCall (m_edge_kayles_value C) (aCons (eVar 12) aNil)) (eCall (m_edge_kayles_value C) (aCons (eVar 13) aNil))) aNil)))))) (sSeq (sRet (eC (.bool false))) sNil) sNil e s) Qs := by
  have GE := side_gr GA GB nd hE
  rw [Rs_if, R_tOr]
  refine R_tsame ?_
  simp only [R_cons, R_nil, R_call, R_bin, R_Var, e12, e13, e14, kvalue_ok GA m0 (by omega) W, kvalue_ok GB n0 (by omega) W, kvalue_ok GE (by omega) hmn W, R_some, N.v_xor, bitXor_nat]
  refine ⟨_, rfl, by rw [side_val false GA GB hE], sok_int 5 _, fun _ => ?_, fun h => (by cases h)⟩
  refine R_tsame ?_
  simp only [R_cons, R_nil, R_call, R_bin, R_Var, e12, e13, e14, kedge_ok GA m0 (by omega) W, kedge_ok GB n0 (by omega) W, kedge_ok GE (by omega) hmn W, R_some, N.v_xor, bitXor_nat]
  refine ⟨_, rfl, by rw [side_val true GA GB hE], sok_int 5 _, fun h => (by cases h), fun _ => Rs_nil.mpr q⟩
theorem half_chk (G : Gr n A) (n0 : 0 < n) (hn : 2 * n ≤ 12) (W : Wf s) (h : Half n t A E) (e19 : e[19]? = some (some (.d (gra (2 * n) E)))) (q : Qs .nx e s) :
    Rs (sIf (tOr (tNot (tVal (eCall (m__law_same 6) (aCons (eCall (m_kayles_value C) (aCons (eVar 19) aNil)) (aCons (eC (.int 0)) aNil))))) (tCmp cNe (eCall (m_kayles_moves C) (aCons (eVar 19) aNil)) (eTup aNil))) (sSeq (sRet (eC (.bool false))) sNil) sNil e s) Qs := by
  have GE := half_gr G h
  rw [Rs_if, R_tOr]
  refine R_tsame ?_
  simp only [R_cons, R_nil, R_call, R_Var, R_C, e19, kvalue_ok GE (by omega) hn W, half_zero G n0 h, R_some]
  refine ⟨_, rfl, rfl, sok_int 5 _, fun _ => ?_, fun h => (by cases h)⟩
  simp only [R_tcmp, R_tup, R_cons, R_nil, R_call, R_Var, e19, kmoves_ok GE (by omega) hn W, half_none G n0 h, R_some, N.data_nil, Rc_some, List.length_nil]
  refine ⟨by unfold lim; omega, ?_⟩
  rw [show cNe s (.d (tup [])) (.d (.tuple [])) = some false from by
    rw [show tup [] = .tuple [] from rfl, v_neP (x := .tuple []) (y := .tuple []) rfl rfl rfl rfl (by simp [PyData.depth, PyData.depthAll])]
    simp, Rc_some]
  exact ⟨fun h => (by cases h), fun _ => Rs_nil.mpr q⟩
end T78

namespace T78
open PySem L2 PyProof.Rows N
open Ky (Adj adjN Nx As g near behV behE behAt beh adjL mex)
variable {C : Addr} {n m t : Nat} {b : Bool} {s rest u : Sto} {A B E es : List (Nat × Nat)} {M1 M2 : List (List Nat)} {Qs : Fl → Lo → Sto → Prop} {Q : D → Sto → Prop} {e : Lo}
theorem mnN (i j : Nat) : mn2 (i : Int) (j : Int) = ((min i j : Nat) : Int) := by
  unfold mn2
  split <;> omega
theorem mxN (i j : Nat) : mx2 (i : Int) (j : Int) = ((max i j : Nat) : Int) := by
  unfold mx2
  split <;> omega
theorem bridge_ok (hn : n ≤ 12) (ht : t < 3) (hl : e.length = 24) (e2 : e[2]? = some (some (enI t))) (e15 : e[15]? = some (some (enI n))) (q : Q (.d (.list ((brL n t).map pr))) s) :
    R (eCall m__law_flat (aCons (eLc false [18] (iRng1 (aCons (eVar 15) aNil)) (gName 18) tTrue (eLc false [17] (iRng1 (aCons (eVar 15) aNil)) (gName 17) (tAnd (tCmp cNe (eVar 18) (eVar 17)) (tCmp cEq (eBin oMul (eBin oDiv (eBin (oAdd false) (eBin (oAdd false) (eCall bMin2 (aCons (eVar 18) (aCons (eVar 17) aNil))) (eBin oMul (eC (.int 2)) (eCall bMax2 (aCons (eVar 18) (aCons (eVar 17) aNil))))) (eVar 2)) (eC (.int 3))) (eC (.int 3))) (eBin (oAdd false) (eBin (oAdd false) (eCall bMin2 (aCons (eVar 18) (aCons (eVar 17) aNil))) (eBin oMul (eC (.int 2)) (eCall bMax2 (aCons (eVar 18) (aCons (eVar 17) aNil))))) (eVar 2)))) (eTup (aCons (eVar 18) (aCons (eBin (oAdd false) (eVar 15) (eVar 17)) aNil))))) aNil) e s) Q := by
  rw [R_call, R_cons]
  refine R_lcm (List.range n) enI (fun i => .list (((List.range n).filter fun j => brg n t i j).map fun j => pr (i, n + j))) ?_ (fun i hi acc => ?_) (by rw [List.length_range]; unfold lim; omega) ?_
  · simp only [Ri_rng1, R_cons, R_nil, R_Var, e15]
    exact ⟨by omega, rng0' rfl, trivial, trivial⟩
  · have hi := List.mem_range.mp hi
    rw [g_name, Rc_some]
    refine R_lc (List.range n) enI (fun j => pr (i, n + j)) (fun j => brg n t i j) ?_ (fun j hj acc2 => ?_) (by rw [List.length_range]; unfold lim; omega) ⟨rfl, rfl⟩
    · have w15 : ((wipeN e [18]).set 18 (some (enI i)))[15]? = some (some (enI n)) := by simpa [wipeN] using e15
      simp only [Ri_rng1, R_cons, R_nil, R_Var, w15]
      exact ⟨by omega, rng0' rfl, trivial, trivial⟩
    · have hj := List.mem_range.mp hj
      rw [g_name, Rc_some]
      have w15 : ((wipeN ((wipeN e [18]).set 18 (some (enI i))) [17]).set 17 (some (enI j)))[15]? = some (some (enI n)) := by simpa [wipeN] using e15
      have w2 : ((wipeN ((wipeN e [18]).set 18 (some (enI i))) [17]).set 17 (some (enI j)))[2]? = some (some (enI t)) := by simpa [wipeN] using e2
      have w17 : ((wipeN ((wipeN e [18]).set 18 (some (enI i))) [17]).set 17 (some (enI j)))[17]? = some (some (enI j)) := by simp [wipeN, hl]
      have w18 : ((wipeN ((wipeN e [18]).set 18 (some (enI i))) [17]).set 17 (some (enI j)))[18]? = some (some (enI i)) := by simp [wipeN, hl]
      have c1 : (2 : Int) * ((max i j : Nat) : Int) = ((2 * max i j : Nat) : Int) := by omega
      have c2 : ((min i j : Nat) : Int) + ((2 * max i j : Nat) : Int) + ((t : Nat) : Int) = ((min i j + 2 * max i j + t : Nat) : Int) := by omega
      have c3 : ((min i j + 2 * max i j + t : Nat) : Int) / 3 = (((min i j + 2 * max i j + t) / 3 : Nat) : Int) := by omega
      have c4 : (((min i j + 2 * max i j + t) / 3 : Nat) : Int) * 3 = (((min i j + 2 * max i j + t) / 3 * 3 : Nat) : Int) := by omega
      have c5 : (!decide ((i : Int) = (j : Int))) = decide (i ≠ j) := by
        rw [Bool.eq_iff_iff]; simp; omega
      have c6 : decide ((((min i j + 2 * max i j + t) / 3 * 3 : Nat) : Int) = ((min i j + 2 * max i j + t : Nat) : Int)) = decide ((min i j + 2 * max i j + t) / 3 * 3 = min i j + 2 * max i j + t) := decide_eq_decide.mpr (by omega)
      have tt : R (tAnd (tCmp cNe (eVar 18) (eVar 17)) (tCmp cEq (eBin oMul (eBin oDiv (eBin (oAdd false) (eBin (oAdd false) (eCall bMin2 (aCons (eVar 18) (aCons (eVar 17) aNil))) (eBin oMul (eC (.int 2)) (eCall bMax2 (aCons (eVar 18) (aCons (eVar 17) aNil))))) (eVar 2)) (eC (.int 3))) (eC (.int 3))) (eBin (oAdd false) (eBin (oAdd false) (eCall bMin2 (aCons (eVar 18) (aCons (eVar 17) aNil))) (eBin oMul (eC (.int 2)) (eCall bMax2 (aCons (eVar 18) (aCons (eVar 17) aNil))))) (eVar 2))) ((wipeN ((wipeN e [18]).set 18 (some (enI i))) [17]).set 17 (some (enI j))) (s ++ [.lst acc] ++ [.lst acc2])) fun b s2 => b = brg n t i j ∧ s2 = s ++ [.lst acc] ++ [.lst acc2] := by
        simp only [R_tAnd, R_tcmp, R_bin, R_call, R_cons, R_nil, R_Var, w15, w2, w17, w18, R_C, R_some, N.v_ne, Rc_some, v_min2, v_max2, mnN, mxN, v_mulL (i := 2) (by decide), c1, N.v_add, c2, v_div (j := 3) (by decide) (by decide), c3, v_mulR (j := 3) (by decide), c4, N.v_eq, c5, c6]
        unfold brg
        exact ⟨fun h => by rw [h]; exact ⟨rfl, trivial⟩, fun h => by rw [h]; exact ⟨rfl, trivial⟩⟩
      rw [R.eq tt, R_some]
      refine ⟨rfl, rfl, fun _ => ?_⟩
      simp only [R_tup, R_cons, R_nil, R_bin, R_Var, w15, w17, w18, R_some, N.v_add, N.data_cons, N.data_nil, Rc_some, List.length_cons, List.length_nil]
      refine ⟨by unfold lim; omega, ?_, trivial⟩
      rw [show ((n : Int) + (j : Int)) = ((n + j : Nat) : Int) by omega]
  · rw [R_nil]
    have ef : ((List.range n).map fun i => ((List.range n).filter fun j => brg n t i j).map fun j => pr (i, n + j)).flatten = (brL n t).map pr := by
      unfold brL
      rw [List.map_flatMap, ← List.flatMap_def]
      simp only [List.map_map]
      rfl
    have hlen : ((brL n t).map pr).length ≤ 10000 := by
      rw [List.length_map]
      have := Ky.flat_len (f := fun i => ((List.range n).filter fun j => brg n t i j).map fun j => (i, n + j)) (k := n) (l := List.range n) fun i _ => by
        rw [List.length_map]
        exact Nat.le_trans (List.length_filter_le _ _) (by rw [List.length_range]; exact Nat.le_refl _)
      rw [List.length_range] at this
      have h3 : n * n ≤ 12 * 12 := Nat.mul_le_mul hn hn
      exact Nat.le_trans this (by omega)
    have := flat_ok (rows := (List.range n).map fun i => ((List.range n).filter fun j => brg n t i j).map fun j => pr (i, n + j)) (by rw [ef]; exact hlen) s
    rw [List.map_map, ef] at this
    exact R.of this q
end T78

namespace T78
open PySem L2 PyProof.Rows N
open Ky (Adj adjN Nx As g near behV behE behAt beh adjL mex)
variable {C : Addr} {n m t : Nat} {b : Bool} {s rest u : Sto} {A B E es : List (Nat × Nat)} {M1 M2 : List (List Nat)} {Qs : Fl → Lo → Sto → Prop} {Q : D → Sto → Prop} {e : Lo}
theorem addLL {xs ys : List PyData} (h : xs.length + ys.length ≤ lim) : oAdd false s (.d (.list xs)) (.d (.list ys)) = some (.d (.list (xs ++ ys)), s) := by
  unfold oAdd asL mkL
  simp only [List.length_map]
  rw [if_pos h, ← List.map_append, data_map]
  rfl
theorem listT (xs : List PyData) : bList false s [.d (.tuple xs)] = some (.d (.list xs), s) := by
  have : R (bList false s [.d (.tuple xs)]) fun d s' => d = .d (.list xs) ∧ s' = s := by
    unfold bList asSeq mkL
    simp [data_map]
  exact R.eq this
theorem srt_empty : Z.srt [] = [] := List.mergeSort_nil
theorem dict_sorted (L : List (Nat × Nat)) {Q : D → Sto → Prop} (q : ∀ (E : List (Nat × Nat)) g, E.Nodup → (∀ e, e ∈ E ↔ e ∈ L) → Flat g → Q (.d (.list (E.map pr))) (s ++ g)) : R (bDictA s [.d (.list (L.map fun e => .tuple [pr e, .int 1]))]) fun d s1 => R (bSortDD false s1 [d]) Q := by
  cases L with
  | nil =>
    have e1 : bDictA s [.d (.list [])] = some (.r s.length, s ++ [.dk []]) := rfl
    rw [List.map_nil, e1, R_some]
    have e2 : bSortDD false (s ++ [.dk []]) [.r s.length] = some (.d (.list []), s ++ [.dk []]) := by
      have e3 : (s ++ [Cell.dk []])[s.length]? = some (.dk []) := by
        rw [List.getElem?_append_right (Nat.le_refl _), Nat.sub_self]; rfl
      unfold bSortDD bSortD bSortK
      simp only [e3, intKs, List.map_nil, srt_empty]
      rfl
    rw [e2, R_some]
    exact q [] _ List.nodup_nil (fun _ => Iff.rfl) (fun c hc n => by
      rw [List.mem_singleton.mp hc]
      intro k j hj
      cases hj)
  | cons a L =>
    rw [show ((a :: L).map fun e => PyData.tuple [pr e, .int 1]) = ((a :: L).map two).map (fun q => .tuple [tup q, .int 1]) by rw [List.map_map]; rfl]
    refine R_dictT (by simp) fun M nd hM => ?_
    refine R_srtDD (by rw [List.getElem?_append_right (Nat.le_refl _), Nat.sub_self]; rfl) ?_
    obtain ⟨M0, rfl⟩ : ∃ M0 : List (Nat × Nat), M = M0.map two := by
      refine ⟨M.map fun r => (r.getD 0 0, r.getD 1 0), ?_⟩
      rw [List.map_map]
      symm
      have h : ∀ x ∈ M, (two ∘ fun r : List Nat => (r.getD 0 0, r.getD 1 0)) x = x := fun x hx => by
        obtain ⟨e, _, rfl⟩ := List.mem_map.mp ((hM x).mp hx)
        rfl
      rw [List.map_congr_left h, List.map_id']
    have two_inj : ∀ x y : Nat × Nat, two x = two y → x = y := fun x y h => by
      unfold two at h
      injection h with h1 h2
      injection h2 with h2 _
      exact Prod.ext h1 h2
    obtain ⟨E, h1, h2⟩ := srt_pr M0
    rw [← two_map, h2]
    refine q E _ (h1.nodup_iff.mpr (List.Pairwise.of_map two (fun x y h e => h (by rw [e])) nd)) (fun e => ?_) (fun c hc n => by
      rw [List.mem_singleton.mp hc]
      exact DG_below _ _ _ _)
    rw [h1.mem_iff]
    have := hM (two e)
    rw [List.mem_map, List.mem_map] at this
    constructor
    · intro he
      obtain ⟨x, hx, ex⟩ := this.mp ⟨e, he, rfl⟩
      rw [← two_inj _ _ ex]; exact hx
    · intro he
      obtain ⟨x, hx, ex⟩ := this.mpr ⟨e, he, rfl⟩
      rw [← two_inj _ _ ex]; exact hx
theorem brL_len (hn : n ≤ 12) : (brL n t).length ≤ 144 := by
  have := Ky.flat_len (f := fun i => ((List.range n).filter fun j => brg n t i j).map fun j => (i, n + j)) (k := n) (l := List.range n) fun i _ => by
    rw [List.length_map]
    exact Nat.le_trans (List.length_filter_le _ _) (by rw [List.length_range]; exact Nat.le_refl _)
  rw [List.length_range] at this
  have h3 : n * n ≤ 12 * 12 := Nat.mul_le_mul hn hn
  exact Nat.le_trans this h3
theorem half_set (G : Gr n A) (hn : n ≤ 12) (hl : e.length = 24) (e12 : e[12]? = some (some (.d (gra n A)))) (e15 : e[15]? = some (some (enI n))) (e16 : e[16]? = some (some (.d (.list ((brL n t).map pr)))))
    (q : ∀ (E : List (Nat × Nat)) g, Half n t A E → Flat g → Q (.d (gra (2 * n) E)) (s ++ g)) :
    R (eTup (aCons (eBin oMul (eC (.int 2)) (eVar 15)) (aCons (eCall bTuple (aCons (eCall (bSortDD false) (aCons (eCall bDictA (aCons (eLc false [20] (iSeq (eBin (oAdd false) (eBin (oAdd false) (eCall (bList false) (aCons (eIt (eVar 12) (eC (.int 1))) aNil)) (eCall (bList false) (aCons (eCall m__law_moved (aCons (eVar 12) (aCons (eVar 15) aNil))) aNil))) (eVar 16))) (gName 20) tTrue (eTup (aCons (eVar 20) (aCons (eC (.int 1)) aNil)))) aNil)) aNil)) aNil)) aNil)) e s) Q := by
  have lA := G.len2 hn
  have lG := G.len
  have lB := brL_len (t := t) hn
  have h3 : n * n ≤ 12 * 12 := Nat.mul_le_mul hn hn
  have lM : (mvE n A).length = A.length := by unfold mvE; rw [List.length_map]
  simp only [R_tup, R_cons, R_nil, R_call, R_bin, R_Var, R_C, e15, R_some, v_mulL (i := 2) (by decide)]
  refine R_lcm (A ++ mvE n A ++ brL n t) (fun e => .d (pr e)) (fun e => .tuple [pr e, .int 1]) ?_ (fun x hx acc => ?_) (by rw [List.length_append, List.length_append, lM]; unfold lim; omega) ?_
  · have a1 : oAdd false s (.d (.list (A.map pr))) (.d (.list ((mvE n A).map pr))) = some (.d (.list ((A ++ mvE n A).map pr)), s) := by
      rw [addLL (by rw [List.length_map, List.length_map, lM]; unfold lim; omega), List.map_append]
    have a2 : oAdd false s (.d (.list ((A ++ mvE n A).map pr))) (.d (.list ((brL n t).map pr))) = some (.d (.list ((A ++ mvE n A ++ brL n t).map pr)), s) := by
      rw [addLL (by rw [List.length_map, List.length_map, List.length_append, lM]; unfold lim; omega), List.map_append (l₁ := A ++ mvE n A)]
    simp only [Ri_seq, R_bin, R_call, R_cons, R_nil, R_it, R_Var, e12, e15, e16, R_C, R_some, it_snd, Rc_some, listT, moved_ok lA, a1, a2]
    exact ⟨by rw [List.map_map]; rfl, trivial, trivial⟩
  · have w20 : ((wipeN e [20]).set 20 (some (.d (pr x))))[20]? = some (some (.d (pr x))) := by simp [wipeN, hl]
    rw [g_name, Rc_some]
    simp only [R_tup, R_cons, R_nil, R_Var, R_C, w20, R_some, N.data_cons, N.data_nil, Rc_some, List.length_cons, List.length_nil]
    exact ⟨by unfold lim; omega, trivial, trivial⟩
  · refine (dict_sorted (A ++ mvE n A ++ brL n t) (Q := fun d s1 => ∃ (E : List (Nat × Nat)) (g : Sto), d = .d (.list (E.map pr)) ∧ s1 = s ++ g ∧ E.Nodup ∧ (∀ e, e ∈ E ↔ e ∈ A ++ mvE n A ++ brL n t) ∧ Flat g) fun E g h1 h2 h3 => ⟨E, g, rfl, rfl, h1, h2, h3⟩).imp fun d s1 hd => hd.imp fun d2 s2 hd2 => ?_
    obtain ⟨E, g, rfl, rfl, h1, h2, h4⟩ := hd2
    simp only [v_tupL, R_some, N.data_cons, N.data_nil, Rc_some, List.length_cons, List.length_nil]
    refine ⟨by unfold lim; omega, ?_⟩
    rw [show (2 : Int) * ((n : Nat) : Int) = ((2 * n : Nat) : Int) by omega]
    exact q E g (half_of h1 h2) h4
end T78

namespace T78
open PySem L2 PyProof.Rows N
open Ky (Adj adjN Nx As g near behV behE behAt beh adjL mex)
variable {C : Addr} {n m t : Nat} {b : Bool} {s rest u : Sto} {A B E es : List (Nat × Nat)} {M1 M2 : List (List Nat)} {Qs : Fl → Lo → Sto → Prop} {Q : D → Sto → Prop} {e : Lo}
theorem R_tupR1 {mb : ME} {e : Lo} {s : Sto} {n : Nat} {Q : D → Sto → Prop} (h : R (mb e s) fun d s1 => d = .d (.int (n : Nat)) ∧ s1 = s) (hn : n ≤ 1000) (q : Q (.d (tup (List.range n))) s) : R (eTupR1 mb e s) Q := by
  obtain ⟨_, _, h1, rfl, rfl⟩ := h
  unfold eTupR1
  simp only [h1]
  rw [if_pos ⟨by omega, by omega, by omega⟩, R_some]
  have e2 : rgI 0 (n : Nat) = nt (List.range n) := by
    have := rgI_nt' 0 n
    simpa using this
  rw [e2]
  exact q
theorem Rs_unp2 {i j : Nat} {m : ME} {e : Lo} {s : Sto} {Qs : Fl → Lo → Sto → Prop} (h : R (m e s) fun d s1 => ∃ k d1 d2, d = .r k ∧ s1[k]? = some (.tp [d1, d2]) ∧ Qs .nx ((e.set i (some d1)).set j (some d2)) s1) : Rs (sUnp2 i j m e s) Qs := by
  obtain ⟨_, s1, h1, k, d1, d2, rfl, h2, q⟩ := h
  unfold sUnp2
  simp only [h1, h2, Rs_some]
  exact q
theorem R_line (hn : n ≤ 12) (n0 : 0 < n) (h10 : 10 < e.length) (e15 : e[15]? = some (some (enI n))) (q : Q (.d (gra n (lineE n))) s) : R (eTup (aCons (eVar 15) (aCons (eCall bTuple (aCons (eLc false [10] (iRng1 (aCons (eBin oSub (eVar 15) (eC (.int 1))) aNil)) (gName 10) tTrue (eTup (aCons (eVar 10) (aCons (eBin (oAdd false) (eVar 10) (eC (.int 1))) aNil)))) aNil)) aNil)) e s) Q := by
  simp only [R_tup, R_cons, R_nil, R_call, R_Var, e15]
  refine R_lcm (List.range (n - 1)) enI (fun k => pr (k, k + 1)) ?_ (fun k hk acc => ?_) (by rw [List.length_range]; unfold lim; omega) ?_
  · simp only [Ri_rng1, R_cons, R_nil, R_bin, R_Var, e15, R_C, R_some, N.v_sub]
    exact ⟨by omega, rng0' (by omega), trivial, trivial⟩
  · have w10 : ((wipeN e [10]).set 10 (some (enI k)))[10]? = some (some (enI k)) := by simp [wipeN, h10]
    rw [g_name, Rc_some]
    simp only [R_tup, R_cons, R_nil, R_bin, R_Var, w10, R_C, R_some, N.v_add, N.data_cons, N.data_nil, Rc_some, List.length_cons, List.length_nil]
    exact ⟨by unfold lim; omega, rfl, trivial⟩
  · simp only [v_tupL, R_some, N.data_cons, N.data_nil, Rc_some, List.length_cons, List.length_nil]
    refine ⟨by unfold lim; omega, ?_⟩
    have e : (List.range (n - 1)).map (fun k => pr (k, k + 1)) = (lineE n).map pr := by
      unfold lineE
      rw [List.map_map]
      rfl
    rw [e]
    exact q
def hd (x : D) (y : Option PyData) : Lo := [some x, some (.r 1), none, none, none, none, none, none, none, none, y.map .d, none, none, none, none, none, none, none, none, none, none, none, none, none]
theorem run (C : Addr) {ns : List Int} (hl : ns.length ≤ 63) : ∃ s', m_law C [] [.d (.list (ns.map .int))] = some (.d (.bool true), s') := by
  suffices h : R (m_law C [] [.d (.list (ns.map .int))]) fun d _ => d = .d (.bool true) by
    obtain ⟨_, s', h, rfl⟩ := h
    exact ⟨s', h⟩
  unfold m_law b_law
  rw [R_fn]
  refine ⟨rfl, ?_⟩
  rw [Rs_seq, Rs_set]
  simp only [R_call, R_cons, R_nil, R_Var]
  simp only [List.map_cons, List.map_nil, List.cons_append, List.nil_append, List.getElem?_cons_zero]
  refine R_box fun s0 t0 => ?_
  simp only [List.length_cons, List.length_nil, Nat.reduceSub, Nat.reduceAdd, List.replicate_succ, List.replicate_zero, List.cons_append, List.nil_append, List.set_cons_succ, List.set_cons_zero]
  generalize hX : PyData.list (ns.map .int) = z
  rw [N.thn_nx, Rs_seq]
  refine Rs_for (List.range 3) enI (fun k e s' => BS [] s' ∧ ∃ y, e = hd (.d z) y) ?_ (fun k t e s' hk hi => ?_) (fun e s' hi => ?_)
  · simp only [Rs_nil, R_call, R_cons, R_nil, R_Var, R_C, R_bin, R_cmp, R_tcmp, R_tOr, R_tAnd, R_tNot, R_tVal, R_tTrue, R_ite, R_eAnd, R_eOr, R_eNot, R_neg, R_tup, R_isi, R_some, Rc_some, N.v_eq, N.v_ne, N.v_lt, N.v_le, N.v_gt, N.v_ge, N.v_add, N.v_sub, N.v_iadd, N.v_xor, N.v_int, N.tru_b, N.pd_d, N.data_nil, N.data_cons, N.len_t, N.v_tupT, N.g_name, N.isNone_n, N.isNone_t, N.isNone_i, N.v_isN, N.v_isNn, N.v_eqB, N.v_neB, List.set_cons_succ, List.set_cons_zero, List.getElem?_cons_succ, List.getElem?_cons_zero, Bool.not_true, Bool.not_false, Bool.false_eq_true, Bool.true_eq_false, eq_self, true_implies, false_implies, true_and, and_true, decide_true, decide_false, Int.zero_add, N.R_sl, N.R_it, R_oNone, R_oSome, wipeN, N.R_lst, N.R_mkF, N.R_mkT, N.R_meth, N.v_addT, Ri_rng1, Ri_rng2, Ri_seq]
    exact ⟨by omega, rng0' rfl, t0, none, rfl⟩
  · obtain ⟨t1, y, rfl⟩ := hi
    have ht : t < 3 := by
      obtain ⟨hk1, hk2⟩ := List.getElem?_eq_some_iff.mp hk
      have h2 : k = t := by simpa using hk2
      have h1 : k < 3 := by simpa using hk1
      omega
    rw [g_name, Rc_some]
    simp only [hd, List.set_cons_succ, List.set_cons_zero]
    rw [Rs_seq, Rs_set]
    simp only [R_call, R_cons, R_nil, R_Var, R_C, R_bin, List.getElem?_cons_succ, List.getElem?_cons_zero, R_some]
    refine R_draw t1 (m := 4) (by decide) (by decide) fun d s2 hd2 t2 => ?_
    rw [N.v_add, R_some, show (1 : Int) + ((d : Nat) : Int) = ((1 + d : Nat) : Int) by omega]
    refine R_graph t2 flat_nil (m := 7) (by decide) (by decide) fun n es u n0 n7 G tu => ?_
    have W := tu.wf flat_nil
    simp only [List.set_cons_succ, List.set_cons_zero]
    rw [N.thn_nx, Rs_seq, Rs_par, R_cons]
    refine R_tupR1 (n := n) ?_ (by omega) ?_
    · simp only [Rs_nil, R_call, R_cons, R_nil, R_Var, R_C, R_bin, R_cmp, R_tcmp, R_tOr, R_tAnd, R_tNot, R_tVal, R_tTrue, R_ite, R_eAnd, R_eOr, R_eNot, R_neg, R_tup, R_isi, R_some, Rc_some, N.v_eq, N.v_ne, N.v_lt, N.v_le, N.v_gt, N.v_ge, N.v_add, N.v_sub, N.v_iadd, N.v_xor, N.v_int, N.tru_b, N.pd_d, N.data_nil, N.data_cons, N.len_t, N.v_tupT, N.g_name, N.isNone_n, N.isNone_t, N.isNone_i, N.v_isN, N.v_isNn, N.v_eqB, N.v_neB, List.set_cons_succ, List.set_cons_zero, List.getElem?_cons_succ, List.getElem?_cons_zero, Bool.not_true, Bool.not_false, Bool.false_eq_true, Bool.true_eq_false, eq_self, true_implies, false_implies, true_and, and_true, decide_true, decide_false, Int.zero_add, N.R_sl, N.R_it, R_oNone, R_oSome, wipeN, N.R_lst, N.R_mkF, N.R_mkT, N.R_meth, N.v_addT, Ri_rng1, Ri_rng2, Ri_seq, it_fst]
      try exact ⟨trivial, trivial⟩
    simp only [R_cons, R_nil, R_dic, List.length_cons, List.length_nil]
    refine ⟨trivial, ?_⟩
    simp only [List.zip_cons_cons, List.zip_nil_right, List.foldl_cons, List.foldl_nil, List.set_cons_succ, List.set_cons_zero]
    have es0 : u ++ [Cell.dic []] ++ [Cell.dic []] = sto u n es [] [] := by
      rw [List.append_assoc]
      rfl
    rw [es0, show (u ++ [Cell.dic []]).length = u.length + 1 by simp]
    rw [N.thn_nx, Rs_seq]
    refine chk_vals (C := C) G n0 (by omega) W Mok.nil Mok.nil rfl rfl rfl rfl fun M1 M2 h1 h2 => ?_
    rw [N.thn_nx, Rs_seq, Rs_set]
    refine due_ok (M1 := M1) (M2 := M2) G (by omega) W h1 (by simp) rfl rfl rfl fun M1 h1 => ?_
    simp only [List.set_cons_succ, List.set_cons_zero]
    rw [N.thn_nx, Rs_seq]
    have hw12 : n ≤ 12 := by omega
    refine Rs_chk ?_
    simp only [R_call, R_cons, R_nil, R_Var, List.getElem?_cons_succ, List.getElem?_cons_zero, kmoves_ok G n0 hw12 (sto_wf W), R_some]
    have lw := List.length_filter_le (winV es (List.range n)) (List.range n)
    rw [List.length_range] at lw
    refine ⟨_, rfl, rfl, sok_row (by omega), ?_⟩
    rw [N.thn_nx, Rs_seq, Rs_set]
    simp only [R_lst, R_nil, R_mkT, List.length_nil]
    refine ⟨by unfold lim; omega, ?_⟩
    rw [sto_len]
    simp only [List.set_cons_succ, List.set_cons_zero]
    generalize hw : (List.range n).filter (winV es (List.range n)) = w7
    rw [N.thn_nx, Rs_seq]
    refine wins_ok (ee := fun a b => [some (.d z), some (.r 1), some (enI t), some (.d (gra n es)), some (.d (tup (List.range n))), some (.r u.length), some (.r (u.length + 1)), some (.d (tup w7)), none, some (.r (u.length + 2)), a, b, none, none, none, none, none, none, none, none, none, none, none, none]) ⟨fun _ _ _ => rfl, fun _ _ _ => rfl, fun _ _ => rfl, fun _ _ => rfl, fun _ _ => rfl, fun _ _ => rfl, fun _ _ => rfl, fun _ _ => rfl, fun _ _ => rfl⟩ G hw12 W h2 y (fun y M2 h2 => ?_)
    rw [N.thn_nx, Rs_seq]
    have le := G.len
    have h144 : n * n ≤ 12 * 12 := Nat.mul_le_mul hw12 hw12
    have lw9 := List.length_filter_le (winE es (List.range n)) (List.range es.length)
    rw [List.length_range] at lw9
    have wfw : Wf (sto u n es M1 M2 ++ [cR ((List.range es.length).filter (winE es (List.range n)))]) := wf_lst (sto_wf W) _
    have e9 := tup_R (s := sto u n es M1 M2 ++ [cR ((List.range es.length).filter (winE es (List.range n)))]) (j := u.length + 2) (l := (List.range es.length).filter (winE es (List.range n))) (by
      rw [← sto_len (u := u) (n := n) (es := es) (M1 := M1) (M2 := M2)]; exact cR_get)
    refine Rs_chk ?_
    simp only [R_call, R_cons, R_nil, R_Var, List.getElem?_cons_succ, List.getElem?_cons_zero, kemoves_ok G n0 hw12 wfw, R_some, e9]
    refine ⟨_, rfl, rfl, sok_row (by omega), ?_⟩
    obtain ⟨rest, hr⟩ : ∃ rest, [Mc false (nxs n es) M1, Mc true (nxs n es) M2] ++ [cR ((List.range es.length).filter (winE es (List.range n)))] = rest := ⟨_, rfl⟩
    have fr : Flat rest := by
      rw [← hr]
      refine flat_app (fun c hc k => ?_) (flat_lst _)
      rcases List.mem_cons.mp hc with rfl | hc
      · exact DG_below _ _ _ _
      · rw [List.mem_singleton.mp hc]; exact DG_below _ _ _ _
    have tr : BS rest (sto u n es M1 M2 ++ [cR ((List.range es.length).filter (winE es (List.range n)))]) := by
      have := tu.app rest
      unfold sto
      rwa [List.append_assoc, hr]
    generalize sto u n es M1 M2 ++ [cR ((List.range es.length).filter (winE es (List.range n)))] = s3 at tr
    rw [N.thn_nx, Rs_seq, Rs_par, R_cons]
    simp only [R_call, R_cons, R_nil, R_Var, R_C, List.getElem?_cons_succ, List.getElem?_cons_zero]
    refine R_graph tr fr (m := 5) (part := 3) (by decide) (by decide) fun m A s4 m0 m5 GA t4 => ?_
    refine R_graph t4 fr (m := 5) (part := 3) (by decide) (by decide) fun n' B s5 n0' n5 GB t5 => ?_
    simp only [List.length_cons, List.length_nil]
    refine ⟨trivial, ?_⟩
    simp only [List.zip_cons_cons, List.zip_nil_right, List.foldl_cons, List.foldl_nil, List.set_cons_succ, List.set_cons_zero]
    rw [N.thn_nx, Rs_seq, Rs_set]
    refine side_set GA GB (by omega) (by omega) rfl rfl fun E nd hE => ?_
    simp only [List.set_cons_succ, List.set_cons_zero]
    rw [N.thn_nx, Rs_seq]
    refine side_chk (C := C) GA GB m0 n0' (by omega) (t5.wf fr) nd hE rfl rfl rfl ?_
    rw [N.thn_nx, Rs_seq, Rs_set]
    simp only [R_it, R_Var, R_C, List.getElem?_cons_succ, List.getElem?_cons_zero, R_some, it_fst, Rc_some, List.set_cons_succ, List.set_cons_zero]
    rw [N.thn_nx, Rs_seq, Rs_set]
    refine bridge_ok (n := m) (t := t) (by omega) ht rfl rfl rfl ?_
    simp only [List.set_cons_succ, List.set_cons_zero]
    rw [N.thn_nx, Rs_seq, Rs_set]
    refine half_set (n := m) (t := t) GA (by omega) rfl rfl rfl rfl fun E2 g2 hh fg => ?_
    simp only [List.set_cons_succ, List.set_cons_zero]
    rw [N.thn_nx, Rs_seq]
    have t6 := t5.app g2
    refine half_chk (C := C) GA m0 (by omega) (t6.wf (flat_app fr fg)) hh rfl ?_
    rw [N.thn_nx, Rs_nil, aft_nx]
    obtain ⟨s6, rfl, t7⟩ := BS.unapp (rest := []) (g := rest) (by simpa using t5)
    rw [List.append_assoc, trimE_wf (by rw [t7.len, t1.len]) (t7.wf flat_nil)]
    · exact ⟨t7, y, rfl⟩
    · intro i j h
      rw [t1.len]
      have h2 : (hd (.d z) y)[i]? = some (some (.r j)) := h
      unfold hd at h2
      cases y with
      | none =>
        rcases i with _ | _ | _ | _ | _ | _ | _ | _ | _ | _ | _ | _ | _ | _ | _ | _ | _ | _ | _ | _ | _ | _ | _ | _ | i <;> simp at h2
        simp
        omega
      | some y =>
        rcases i with _ | _ | _ | _ | _ | _ | _ | _ | _ | _ | _ | _ | _ | _ | _ | _ | _ | _ | _ | _ | _ | _ | _ | _ | i <;> simp at h2
        simp
        omega
  · obtain ⟨t1, y, rfl⟩ := hi
    rw [N.thn_nx, Rs_seq, Rs_set]
    simp only [hd, R_call, R_cons, R_nil, R_Var, R_C, R_bin, List.getElem?_cons_succ, List.getElem?_cons_zero, R_some]
    refine R_draw t1 (m := 12) (by decide) (by decide) fun d s2 hd2 t2 => ?_
    rw [N.v_add, R_some, show (1 : Int) + ((d : Nat) : Int) = ((1 + d : Nat) : Int) by omega]
    have n12 : 1 + d ≤ 12 := by omega
    have n0 : 0 < 1 + d := by omega
    generalize 1 + d = n at n12 n0
    simp only [List.set_cons_succ, List.set_cons_zero]
    rw [N.thn_nx, Rs_seq, Rs_set]
    refine R_line n12 n0 (by simp) rfl ?_
    simp only [List.set_cons_succ, List.set_cons_zero]
    rw [N.thn_nx, Rs_seq]
    refine Rs_unp2 ?_
    simp only [R_call, R_cons, R_nil, R_C, lines_ok, R_some]
    refine ⟨_, _, _, rfl, by rw [List.getElem?_append_right (by omega), show s2.length + 2 - s2.length = 0 + 1 + 1 by omega, List.getElem?_cons_succ, List.getElem?_cons_succ, List.getElem?_cons_zero], ?_⟩
    simp only [List.set_cons_succ, List.set_cons_zero]
    have c0 : (s2 ++ [cR (lf1 12), cR (lf2 12), Cell.tp [.r s2.length, .r (s2.length + 1)]])[s2.length]? = some (cR (lf1 12)) := by
      rw [List.getElem?_append_right (Nat.le_refl _), Nat.sub_self]; rfl
    have c1 : (s2 ++ [cR (lf1 12), cR (lf2 12), Cell.tp [.r s2.length, .r (s2.length + 1)]])[s2.length + 1]? = some (cR (lf2 12)) := by
      rw [List.getElem?_append_right (by omega), show s2.length + 1 - s2.length = 0 + 1 by omega, List.getElem?_cons_succ]; rfl
    have W : Wf (s2 ++ [cR (lf1 12), cR (lf2 12), Cell.tp [.r s2.length, .r (s2.length + 1)]]) := by
      intro c hc
      rw [List.length_append]
      rcases List.mem_append.mp hc with h | h
      · exact below_mono (t2.wf flat_nil c h) (by omega)
      · simp only [List.mem_cons, List.not_mem_nil, or_false] at h
        rcases h with rfl | rfl | rfl
        · intro j hj
          obtain ⟨x, _, h⟩ := List.mem_map.mp hj
          cases h
        · intro j hj
          obtain ⟨x, _, h⟩ := List.mem_map.mp hj
          cases h
        · intro j hj
          simp at hj
          simp
          omega
    generalize s2 ++ [cR (lf1 12), cR (lf2 12), Cell.tp [.r s2.length, .r (s2.length + 1)]] = s3 at c0 c1 W
    have i0 := it_cR c0 (k := n) (by rw [lf1_len]; omega)
    have i1 := it_cR c1 (k := n) (by rw [lf2_len]; omega)
    have v0 : (lf1 12).getD n 0 = g false (adjE (lineE n)) (List.range n) := by rw [lf1_eq, getR (by omega), line_val]
    have v1 : (lf2 12).getD n 0 = g true (adjE (lineE n)) (List.range n) := by rw [lf2_eq, getR (by omega), line_val]
    rw [N.thn_nx, Rs_seq]
    refine Rs_chk ?_
    simp only [R_tup, R_cons, R_nil, R_call, R_it, R_Var, List.getElem?_cons_succ, List.getElem?_cons_zero, R_some, kvalue_ok (line_gr n) n0 n12 W, kedge_ok (line_gr n) n0 n12 W, i0, i1, v0, v1, Rc_some, N.data_cons, N.data_nil, List.length_cons, List.length_nil]
    refine ⟨by unfold lim; omega, by unfold lim; omega, _, rfl, rfl, sok_two _ _, ?_⟩
    rw [N.thn_nx, Rs_seq, Rs_ret, R_eAnd]
    have k1 := values_ok (c := [1, 3, 7]) ⟨by decide, by decide⟩ (n := 12) (by decide) s3
    have k2 := values_ok (c := [0, 7]) ⟨by decide, by decide⟩ (n := 12) (by decide) s3
    rw [← lf1_12] at k1
    rw [← lf2_12] at k2
    have q1 : eTup (aCons (eC (.int 1)) (aCons (eC (.int 3)) (aCons (eC (.int 7)) aNil))) = eTup (aCons (eC (.int 1)) (aCons (eC (.int 3)) (aCons (eC (.int 7)) aNil))) := rfl
    have sl1 : sok 6 (.tuple (nt (lf1 12))) := sok_row (by rw [lf1_len]; decide)
    have sl2 : sok 6 (.tuple (nt (lf2 12))) := sok_row (by rw [lf2_len]; decide)
    have u1 : bTuple s3 [.r s2.length] = some (.d (.tuple (nt (lf1 12))), s3) := tup_R c0
    have u2 : bTuple s3 [.r (s2.length + 1)] = some (.d (.tuple (nt (lf2 12))), s3) := tup_R c1
    have k1' : m_code_values s3 [.d (.tuple [.int 1, .int 3, .int 7]), .d (.int 12)] = some (.d (.tuple (nt (lf1 12))), s3) := k1
    have k2' : m_code_values s3 [.d (.tuple [.int 0, .int 7]), .d (.int 12)] = some (.d (.tuple (nt (lf2 12))), s3) := k2
    simp only [R_call, R_cons, R_nil, R_tup, R_Var, R_C, R_some, N.data_cons, N.data_nil, Rc_some, List.length_cons, List.length_nil, List.getElem?_cons_succ, List.getElem?_cons_zero, k1', u1]
    refine ⟨by unfold lim; omega, ?_⟩
    refine R_same sl1 ?_
    simp only [tru_b, Rc_some]
    refine ⟨fun _ => ?_, fun h => (by cases h)⟩
    simp only [R_call, R_cons, R_nil, R_tup, R_Var, R_C, R_some, N.data_cons, N.data_nil, Rc_some, List.length_cons, List.length_nil, List.getElem?_cons_succ, List.getElem?_cons_zero, k2', u2]
    refine ⟨by unfold lim; omega, ?_⟩
    refine R_same sl2 ?_
    rw [N.thn_rt]
    exact ⟨_, _, rfl, rfl⟩
end T78

namespace T78
open PySem L2 PyProof.Rows N
open Z (Dfn)
section
variable {P : Program} {w : World} {K : PySem.W.Frag} {mg : Str → Option Value}
structure Ds (K : PySem.W.Frag) (mg : Str → Option Value) (C_Kayles : Addr) : Prop where
  t_Kayles : Cl_Kayles K mg C_Kayles
  d_least_missing : Dfn K mg "least_missing" s_least_missing ["numbers"]
  d_nexts_of : Dfn K mg "nexts_of" s_nexts_of ["graph"]
  d_pieces_of : Dfn K mg "pieces_of" s_pieces_of ["nexts", "places"]
  d_Kayles___init__ : DfnM K C_Kayles "__init__" "Kayles.__init__" s_Kayles___init__ ["self", "graph", "by_edges"]
  d_Kayles_behind : DfnM K C_Kayles "behind" "Kayles.behind" s_Kayles_behind ["self", "places"]
  d_Kayles_value : DfnM K C_Kayles "value" "Kayles.value" s_Kayles_value ["self", "places"]
  d_kayles_value : Dfn K mg "kayles_value" s_kayles_value ["graph"]
  d_edge_kayles_value : Dfn K mg "edge_kayles_value" s_edge_kayles_value ["graph"]
  d_kayles_moves : Dfn K mg "kayles_moves" s_kayles_moves ["graph"]
  d_edge_kayles_moves : Dfn K mg "edge_kayles_moves" s_edge_kayles_moves ["graph"]
  d_code_values : Dfn K mg "code_values" s_code_values ["code", "n"]
  d__law_flat : Dfn K mg "_law_flat" s__law_flat ["rows"]
  d__law_box : Dfn K mg "_law_box" s__law_box ["script"]
  d__law_load : Dfn K mg "_law_load" s__law_load ["box"]
  d__law_draw : Dfn K mg "_law_draw" s__law_draw ["box", "many"]
  d__law_same : Dfn K mg "_law_same" s__law_same ["a", "b"]
  d__law_graph : Dfn K mg "_law_graph" s__law_graph ["box", "most", "part"]
  d__law_near : Dfn K mg "_law_near" s__law_near ["graph", "place"]
  d__law_missing : Dfn K mg "_law_missing" s__law_missing ["worths"]
  d__law_rest : Dfn K mg "_law_rest" s__law_rest ["graph", "places_left", "place"]
  d__law_value : Dfn K mg "_law_value" s__law_value ["graph", "places_left", "met"]
  d__law_edge_value : Dfn K mg "_law_edge_value" s__law_edge_value ["graph", "places_left", "met"]
  d__law_lines : Dfn K mg "_law_lines" s__law_lines ["most"]
  d__law_moved : Dfn K mg "_law_moved" s__law_moved ["graph", "step"]
  n : Nm mg
  g : Gm mg
theorem all_mk {C_Kayles : Addr} {h : Heap} {fa f2 : Addr} (X : K.In h) (G : h.Ns PySem.mainGlobals mg) (hfa : mg "law" = some (.ref fa)) (D : Ds K mg C_Kayles) {od2 an2 : Option Addr} {sl2 : Array (Option Value)} {oc2 kV2 dc2 pm2 cd2 ct2 : Value}
    (a2 : PySem.W.nsIn K PySem.mainGlobals "law" = some (some (.ref f2))) (l2 : K.lookup f2 = some ⟨oc2, od2, .func (PySem.W.fnOf "law" "law" (defArgs s_law) (defBody s_law) (defScope s_law) .none kV2 dc2 pm2 an2 cd2 ct2), sl2⟩) (c2 : PySem.W.codeIn K cd2 "law" = true) (k2 : PySem.W.keepIn K (.ref f2) = true) :
    ∃ fd : FuncData, (∀ (s : Shared) (v : Value), BindsTo s fd ⟨[v], []⟩ [("script", v)]) ∧ ∀ base : Heap, K.In base → base.Ns PySem.mainGlobals mg → FnOk P w K mg base CX0 18 fa fd ["script"] (spE K) := by
  have e := hfa.symm.trans (PySem.W.mg_of X G a2)
  cases e
  obtain ⟨fd, F2, hB⟩ : ∃ fd, Fun K "law" "law" s_law fa fd ∧ ∀ (s : Shared) (v : Value), BindsTo s fd ⟨[v], []⟩ [("script", v)] := ⟨_, fun_mk (st := s_law) l2 c2 k2, fun s v => .of_eq rfl⟩
  refine ⟨fd, hB, fun base _ _ => ?_⟩
  have h_least_missing := c_least_missing (P := P) (w := w) (base := base) D.d_least_missing D.n D.g 
  have h_nexts_of := c_nexts_of (P := P) (w := w) (base := base) D.d_nexts_of D.n D.g 
  have h_pieces_of := c_pieces_of (P := P) (w := w) (base := base) D.d_pieces_of D.n D.g 
  have h_Kayles___init__ := c_Kayles___init__ (P := P) (w := w) (base := base) D.d_Kayles___init__ D.n D.g D.t_Kayles h_nexts_of
  have h_Kayles_behind := c_Kayles_behind (P := P) (w := w) (base := base) D.d_Kayles_behind D.n D.g D.t_Kayles 
  have h_Kayles_value := c_Kayles_value (P := P) (w := w) (base := base) D.d_Kayles_value D.n D.g D.t_Kayles h_Kayles_behind h_least_missing h_pieces_of
  have h_kayles_value := c_kayles_value (P := P) (w := w) (base := base) D.d_kayles_value D.n D.g D.t_Kayles h_Kayles___init__ (h_Kayles_value 14)
  have h_edge_kayles_value := c_edge_kayles_value (P := P) (w := w) (base := base) D.d_edge_kayles_value D.n D.g D.t_Kayles h_Kayles___init__ (h_Kayles_value 14)
  have h_kayles_moves := c_kayles_moves (P := P) (w := w) (base := base) D.d_kayles_moves D.n D.g D.t_Kayles h_Kayles___init__ (h_Kayles_value 14)
  have h_edge_kayles_moves := c_edge_kayles_moves (P := P) (w := w) (base := base) D.d_edge_kayles_moves D.n D.g D.t_Kayles h_Kayles___init__ (h_Kayles_value 14)
  have h_code_values := c_code_values (P := P) (w := w) (base := base) D.d_code_values D.n D.g h_least_missing
  have h__law_flat := c__law_flat (P := P) (w := w) (base := base) D.d__law_flat D.n D.g 
  have h__law_box := c__law_box (P := P) (w := w) (base := base) D.d__law_box D.n D.g 
  have h__law_load := c__law_load (P := P) (w := w) (base := base) D.d__law_load D.n D.g 
  have h__law_draw := c__law_draw (P := P) (w := w) (base := base) D.d__law_draw D.n D.g h__law_load
  have h__law_same := c__law_same (P := P) (w := w) (base := base) D.d__law_same D.n D.g 
  have h__law_graph := c__law_graph (P := P) (w := w) (base := base) D.d__law_graph D.n D.g h__law_draw h__law_flat
  have h__law_near := c__law_near (P := P) (w := w) (base := base) D.d__law_near D.n D.g 
  have h__law_missing := c__law_missing (P := P) (w := w) (base := base) D.d__law_missing D.n D.g 
  have h__law_rest := c__law_rest (P := P) (w := w) (base := base) D.d__law_rest D.n D.g h__law_near
  have h__law_value := c__law_value (P := P) (w := w) (base := base) D.d__law_value D.n D.g h__law_missing h__law_rest
  have h__law_edge_value := c__law_edge_value (P := P) (w := w) (base := base) D.d__law_edge_value D.n D.g h__law_missing
  have h__law_lines := c__law_lines (P := P) (w := w) (base := base) D.d__law_lines D.n D.g h__law_missing
  have h__law_moved := c__law_moved (P := P) (w := w) (base := base) D.d__law_moved D.n D.g 
  exact c_law F2 D.n D.g D.t_Kayles h__law_box h__law_draw (h__law_edge_value 14) h__law_flat h__law_graph h__law_lines h__law_moved h__law_rest (h__law_same 6) (h__law_value 14) h_code_values h_edge_kayles_moves h_edge_kayles_value h_kayles_moves h_kayles_value fun ns hl => run _ hl
end
end T78
open PySem PySem.W PyProof.Rows
set_option maxHeartbeats 0 in
theorem PySem.Challenge.cw_cantmove_k78_whole_kayles_holds : PySem.Challenge.rw_cantmove_k78_whole_kayles.Holds := by
  w_on; o_law; k_head; (case hw => w_witness2)
  k_fill
  refine L2.walk_ofB (l := PySem.Challenge.rw_cantmove_k78_whole_kayles) (n := 63) (k := 18) (x := "script") (CX := fun _ => L2.CX0) (sp := fun w => N.spE _) rfl (by decide) rfl ⟨rfl, by decide, by decide⟩ (fun w h Y => PySem.W.kIn_of Y) ?F (fun _ _ a ns hl _ _ hS => N.head_ok hl hS) (fun _ _ _ _ _ h => h)
  case F =>
    intro w mg fa h KX G hmg
    refine' T78.all_mk KX G hmg ?D ?a2 ?l2 ?c2 ?k2
    (case a2 => k_is); (case l2 => k_is); (case c2 => k_is); (case k2 => k_is)
    case D =>
      constructor
      · constructor
        · constructor
          · refine' PySem.W.mg_of KX G ?zC
            (case zC => k_is)
          · refine' ⟨?pg, ?hd, ?po, ?sa⟩
            (case pg => k_is); (case hd => k_is); (case po => k_is); (case sa => k_is)
          · k_is
          · k_is
        · show PySem.W.findIn _ _ _ = some none
          k_is
        · show PySem.W.findIn _ _ _ = some none
          k_is
        · show PySem.W.findIn _ _ _ = some none
          k_is
      · refine' Z.fn_dfn KX G ?aD ?lD ?cD ?kD (fun _ _ _ _ _ _ us hl => match us, hl with | [_], _ => rfl)
        (case aD => k_is); (case lD => k_is); (case cD => k_is); (case kD => k_is)
      · refine' Z.fn_dfn KX G ?aD ?lD ?cD ?kD (fun _ _ _ _ _ _ us hl => match us, hl with | [_], _ => rfl)
        (case aD => k_is); (case lD => k_is); (case cD => k_is); (case kD => k_is)
      · refine' Z.fn_dfn KX G ?aD ?lD ?cD ?kD (fun _ _ _ _ _ _ us hl => match us, hl with | [_, _], _ => rfl)
        (case aD => k_is); (case lD => k_is); (case cD => k_is); (case kD => k_is)
      · refine' N.dfnM_mk ?aD ?iD ?lD ?cD ?kD (fun _ _ _ _ _ _ us hl => match us, hl with | [_, _, _], _ => rfl)
        (case aD => k_is); (case iD => k_is); (case lD => k_is); (case cD => k_is); (case kD => k_is)
      · refine' N.dfnM_mk ?aD ?iD ?lD ?cD ?kD (fun _ _ _ _ _ _ us hl => match us, hl with | [_, _], _ => rfl)
        (case aD => k_is); (case iD => k_is); (case lD => k_is); (case cD => k_is); (case kD => k_is)
      · refine' N.dfnM_mk ?aD ?iD ?lD ?cD ?kD (fun _ _ _ _ _ _ us hl => match us, hl with | [_, _], _ => rfl)
        (case aD => k_is); (case iD => k_is); (case lD => k_is); (case cD => k_is); (case kD => k_is)
      · refine' Z.fn_dfn KX G ?aD ?lD ?cD ?kD (fun _ _ _ _ _ _ us hl => match us, hl with | [_], _ => rfl)
        (case aD => k_is); (case lD => k_is); (case cD => k_is); (case kD => k_is)
      · refine' Z.fn_dfn KX G ?aD ?lD ?cD ?kD (fun _ _ _ _ _ _ us hl => match us, hl with | [_], _ => rfl)
        (case aD => k_is); (case lD => k_is); (case cD => k_is); (case kD => k_is)
      · refine' Z.fn_dfn KX G ?aD ?lD ?cD ?kD (fun _ _ _ _ _ _ us hl => match us, hl with | [_], _ => rfl)
        (case aD => k_is); (case lD => k_is); (case cD => k_is); (case kD => k_is)
      · refine' Z.fn_dfn KX G ?aD ?lD ?cD ?kD (fun _ _ _ _ _ _ us hl => match us, hl with | [_], _ => rfl)
        (case aD => k_is); (case lD => k_is); (case cD => k_is); (case kD => k_is)
      · refine' Z.fn_dfn KX G ?aD ?lD ?cD ?kD (fun _ _ _ _ _ _ us hl => match us, hl with | [_, _], _ => rfl)
        (case aD => k_is); (case lD => k_is); (case cD => k_is); (case kD => k_is)
      · refine' Z.fn_dfn KX G ?aD ?lD ?cD ?kD (fun _ _ _ _ _ _ us hl => match us, hl with | [_], _ => rfl)
        (case aD => k_is); (case lD => k_is); (case cD => k_is); (case kD => k_is)
      · refine' Z.fn_dfn KX G ?aD ?lD ?cD ?kD (fun _ _ _ _ _ _ us hl => match us, hl with | [_], _ => rfl)
        (case aD => k_is); (case lD => k_is); (case cD => k_is); (case kD => k_is)
      · refine' Z.fn_dfn KX G ?aD ?lD ?cD ?kD (fun _ _ _ _ _ _ us hl => match us, hl with | [_], _ => rfl)
        (case aD => k_is); (case lD => k_is); (case cD => k_is); (case kD => k_is)
      · refine' Z.fn_dfn KX G ?aD ?lD ?cD ?kD (fun _ _ _ _ _ _ us hl => match us, hl with | [_, _], _ => rfl)
        (case aD => k_is); (case lD => k_is); (case cD => k_is); (case kD => k_is)
      · refine' Z.fn_dfn KX G ?aD ?lD ?cD ?kD (fun _ _ _ _ _ _ us hl => match us, hl with | [_, _], _ => rfl)
        (case aD => k_is); (case lD => k_is); (case cD => k_is); (case kD => k_is)
      · refine' Z.fn_dfn KX G ?aD ?lD ?cD ?kD (fun _ _ _ _ _ _ us hl => match us, hl with | [_, _, _], _ => rfl)
        (case aD => k_is); (case lD => k_is); (case cD => k_is); (case kD => k_is)
      · refine' Z.fn_dfn KX G ?aD ?lD ?cD ?kD (fun _ _ _ _ _ _ us hl => match us, hl with | [_, _], _ => rfl)
        (case aD => k_is); (case lD => k_is); (case cD => k_is); (case kD => k_is)
      · refine' Z.fn_dfn KX G ?aD ?lD ?cD ?kD (fun _ _ _ _ _ _ us hl => match us, hl with | [_], _ => rfl)
        (case aD => k_is); (case lD => k_is); (case cD => k_is); (case kD => k_is)
      · refine' Z.fn_dfn KX G ?aD ?lD ?cD ?kD (fun _ _ _ _ _ _ us hl => match us, hl with | [_, _, _], _ => rfl)
        (case aD => k_is); (case lD => k_is); (case cD => k_is); (case kD => k_is)
      · refine' Z.fn_dfn KX G ?aD ?lD ?cD ?kD (fun _ _ _ _ _ _ us hl => match us, hl with | [_, _, _], _ => rfl)
        (case aD => k_is); (case lD => k_is); (case cD => k_is); (case kD => k_is)
      · refine' Z.fn_dfn KX G ?aD ?lD ?cD ?kD (fun _ _ _ _ _ _ us hl => match us, hl with | [_, _, _], _ => rfl)
        (case aD => k_is); (case lD => k_is); (case cD => k_is); (case kD => k_is)
      · refine' Z.fn_dfn KX G ?aD ?lD ?cD ?kD (fun _ _ _ _ _ _ us hl => match us, hl with | [_], _ => rfl)
        (case aD => k_is); (case lD => k_is); (case cD => k_is); (case kD => k_is)
      · refine' Z.fn_dfn KX G ?aD ?lD ?cD ?kD (fun _ _ _ _ _ _ us hl => match us, hl with | [_, _], _ => rfl)
        (case aD => k_is); (case lD => k_is); (case cD => k_is); (case kD => k_is)
      · constructor
        · refine' PySem.W.mg_none_of KX G ?zD
          (case zD => k_is)
        · refine' PySem.W.mg_none_of KX G ?zD
          (case zD => k_is)
        · refine' PySem.W.mg_none_of KX G ?zD
          (case zD => k_is)
        · refine' PySem.W.mg_none_of KX G ?zD
          (case zD => k_is)
        · refine' PySem.W.mg_none_of KX G ?zD
          (case zD => k_is)
        · refine' PySem.W.mg_none_of KX G ?zD
          (case zD => k_is)
        · refine' PySem.W.mg_none_of KX G ?zD
          (case zD => k_is)
        · refine' PySem.W.mg_none_of KX G ?zD
          (case zD => k_is)
        · refine' PySem.W.mg_none_of KX G ?zD
          (case zD => k_is)
        · refine' PySem.W.mg_none_of KX G ?zD
          (case zD => k_is)
        · refine' PySem.W.mg_none_of KX G ?zD
          (case zD => k_is)
        · refine' PySem.W.mg_none_of KX G ?zD
          (case zD => k_is)
        · refine' PySem.W.mg_none_of KX G ?zD
          (case zD => k_is)
        · refine' PySem.W.mg_none_of KX G ?zD
          (case zD => k_is)
      · constructor
        · trivial

